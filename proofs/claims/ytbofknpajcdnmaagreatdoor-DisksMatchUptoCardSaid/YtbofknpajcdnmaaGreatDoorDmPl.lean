/- Plain lemmas on the models: the law's model answers true. -/
import Derived.Test.YtbofknpajcdnmaaGreatDoorDmMd
set_option linter.unusedSimpArgs false
set_option linter.unusedVariables false
namespace Go.Md
open Go.Vc
section
variable {Z A S α:Type}
theorem call_some (x:A) (k:A→Option Z):call (some x) k=k x:=rfl
theorem callG_some (g:Bool) (x d:A) (k:A→Option Z):callG g (some x) d k=k (bif g then x else d):=by cases g <;> rfl
theorem callG_true (a:Option A) (d:A) (k:A→Option Z):callG true a d k=call a k:=rfl
theorem callG_false (a:Option A) (d:A) (k:A→Option Z):callG false a d k=k d:=rfl
theorem chk_true {p:Prop} [Decidable p] (h:p) (m:Option Z):chk p m=m:=if_pos h
theorem jp_eq (F:S→Option Z) (m:(S→Option Z)→Option Z):jp F m=m F:=rfl
theorem idxS_eq {s:Str} {i:Nat} (h:i < s.length) (k:Int→Option Z):idxS s i k=k (s[i].toNat:Int):=by
 unfold idxS
 simp [h]
theorem idx_eq {l:List α} {i:Nat} (h:i < l.length) (k:α→Option Z):idx l i k=k l[i]:=by
 unfold idx
 simp [h]
theorem forL_all {f:Nat→α→Unit→(Unit→Option Z)→(Unit→Option Z)→Option Z} {z:Z} (q:α→Bool) (hf:∀ i x nx k,f i x () nx k=bif q x then nx () else some z) (k:Unit→Option Z) :
  ∀ (l:List α) (i:Nat),forL l i f () k=bif l.all q then k () else some z
 | [],i=>rfl
 | x::l,i=>by
  unfold forL
  rw [hf,forL_all q hf k l (i+1),List.all_cons]
  cases q x <;> rfl
theorem forL_run {f:Nat→α→S→(S→Option Z)→(S→Option Z)→Option Z} {k:S→Option Z} (inv:Nat→List α→S→Prop) (R:Nat→List α→S→Option Z)
  (h0:∀ i s,inv i [] s→k s=R i [] s) (h1:∀ i x l s nx,inv i (x::l) s→(∀ s',inv (i+1) l s'→nx s'=R (i+1) l s')→f i x s nx k=R i (x::l) s) :
  ∀ (l:List α) (i:Nat) (s:S),inv i l s→forL l i f s k=R i l s
 | [],i,s,h=>h0 i s h
 | x::l,i,s,h=>h1 i x l s _ h fun s' hs=>forL_run inv R h0 h1 l (i+1) s' hs
theorem loopN_run {f:S→(S→Option Z)→(S→Option Z)→Option Z} {k:S→Option Z} (inv:S→Prop) (mu:S→Nat) (R:S→Option Z)
  (h:∀ s nx,inv s→(∀ s',inv s'→mu s' < mu s→nx s'=R s')→f s nx k=R s):∀ (N:Nat) (s:S),inv s→mu s < N→loopN N f s k=R s
 | 0,s,_,hm=>by omega
 | N+1,s,hi,hm=>by
  unfold loopN
  exact h s _ hi fun s' hs' hlt=>loopN_run inv mu R h N s' hs' (by omega)
theorem condS (b:Bool) (x y:Z):(bif b then some x else some y)=some (bif b then x else y):=by cases b <;> rfl
theorem condN (c:Bool) (x y:Z):(bif c then x else y)=bif !c then y else x:=by cases c <;> rfl
end
theorem wrapS {n:Int} (h1:-9223372036854775808≤n) (h2:n≤9223372036854775807):IntKind.i64.wrap n=n:=wrap64 h1 h2
theorem wrap1 (i:Nat) (h:i < 9223372036854775807):IntKind.i64.wrap ((i:Int)+1)=((i+1:Nat):Int):=by rw [wrapS (by omega) (by omega)]; rfl
theorem wrapm1 (i:Nat) (h0:0 < i) (h:i < 9223372036854775807):IntKind.i64.wrap ((i:Int) - 1)=((i - 1:Nat):Int):=by rw [wrapS (by omega) (by omega)]; omega
theorem fuel_ge:1099511627776≤Fuel:=Nat.le_refl _
def cutAt (c:UInt8):Str→Str × Str × Bool
 | []=>([],[],false)
 | b::s=>if b=c then ([],s,true) else (b::(cutAt c s).1,(cutAt c s).2.1,(cutAt c s).2.2)
def splitAt (c:UInt8):Str→List Str
 | []=>[[]]
 | b::s=>if b=c then []::splitAt c s else match splitAt c s with
  | []=>[[b]]
  | h::t=>(b::h)::t
theorem cutAt_none {c:UInt8}:∀ {s:Str},c ∉ s→cutAt c s=(s,[],false)
 | [],_=>rfl
 | b::s,h=>by
  have hb:b ≠ c:=fun e=>h (by simp [e])
  have ht:=cutAt_none (s:=s) (c:=c) (fun h'=>h (List.mem_cons_of_mem _ h'))
  simp only [cutAt,if_neg hb,ht]
theorem cutAt_some {c:UInt8}:∀ {s:Str},c ∈ s→(cutAt c s).2.2=true∧s=(cutAt c s).1++c::(cutAt c s).2.1∧c ∉ (cutAt c s).1
 | [],h=>by cases h
 | b::s,h=>by
  by_cases hb:b=c
  ·subst hb; simp [cutAt]
  ·have hm:c ∈ s:=by
    rcases List.mem_cons.1 h with rfl | h
    ·exact absurd rfl hb
    ·exact h
   obtain ⟨h1,h2,h3⟩:=cutAt_some hm
   simp only [cutAt,if_neg hb]
   refine ⟨h1,by rw [List.cons_append,← h2],?_⟩
   intro h'
   rcases List.mem_cons.1 h' with rfl | h'
   ·exact hb rfl
   ·exact h3 h'
theorem splitAt_none {c:UInt8}:∀ {s:Str},c ∉ s→splitAt c s=[s]
 | [],_=>rfl
 | b::s,h=>by
  have hb:b ≠ c:=fun e=>h (by simp [e])
  have ht:=splitAt_none (s:=s) (c:=c) (fun h'=>h (List.mem_cons_of_mem _ h'))
  simp only [splitAt,if_neg hb,ht]
theorem splitAt_app {c:UInt8}:∀ {a b:Str},c ∉ a→splitAt c (a++c::b)=a::splitAt c b
 | [],b,_=>by simp [splitAt]
 | x::a,b,h=>by
  have hx:x ≠ c:=fun e=>h (by simp [e])
  have:=splitAt_app (a:=a) (b:=b) (c:=c) (fun h'=>h (List.mem_cons_of_mem _ h'))
  simp only [List.cons_append,splitAt,if_neg hx,this]
theorem splitAt_cut (c:UInt8) (s:Str):splitAt c s=if (cutAt c s).2.2=true then (cutAt c s).1::splitAt c (cutAt c s).2.1 else [s]:=by
 by_cases h:c ∈ s
 ·obtain ⟨h1,h2,h3⟩:=cutAt_some h
  rw [if_pos h1]
  conv=>lhs; rw [h2]
  exact splitAt_app h3
 ·rw [cutAt_none h]
  simpa using splitAt_none h
theorem cutAt_len (c:UInt8) (s:Str):(cutAt c s).1.length≤s.length∧(cutAt c s).2.1.length≤s.length∧((cutAt c s).2.2=true→(cutAt c s).1.length+(cutAt c s).2.1.length+1=s.length):=by
 by_cases h:c ∈ s
 ·obtain ⟨h1,h2,h3⟩:=cutAt_some h
  have:=congrArg List.length h2
  simp only [List.length_append,List.length_cons] at this
  exact ⟨by omega,by omega,fun _=>by omega⟩
 ·rw [cutAt_none h]; simp
def ixb (s:Str) (c:UInt8):Int:=Lib.indexByte s c
theorem ixb_cut (c:UInt8):∀ s:Str,ixb s c=if c ∈ s then ((cutAt c s).1.length:Int) else -1
 | []=>rfl
 | b::s=>by
  have ih:=ixb_cut c s
  unfold ixb at *
  unfold Lib.indexByte
  by_cases hb:b=c
  ·subst hb; simp [cutAt]
  ·rw [if_neg (by simpa using hb),ih]
   simp only [cutAt,if_neg hb,List.mem_cons,Ne.symm hb,false_or]
   by_cases h:c ∈ s
   ·rw [if_pos h,if_pos h]
    simp
   ·rw [if_neg h,if_neg h]; rfl
theorem ixb_some {c:UInt8} {s:Str} (h:c ∈ s):ixb s c=((cutAt c s).1.length:Int):=by rw [ixb_cut,if_pos h]
theorem cutAt_take {c:UInt8} {s:Str} (h:c ∈ s):s.take (cutAt c s).1.length=(cutAt c s).1∧s.drop ((cutAt c s).1.length+1)=(cutAt c s).2.1:=by
 obtain ⟨h1,h2,h3⟩:=cutAt_some h
 generalize cutAt c s=q at h2 ⊢
 subst h2
 constructor
 ·exact List.take_left' rfl
 ·rw [← List.drop_drop,List.drop_left' rfl]; rfl
theorem len1 (c:UInt8):((([c]:Str).length:Nat):Int)=1:=rfl
theorem indexByte_u8 (s:Str) (c:UInt8):ixByte s (c.toNat:Int)=ixb s c:=by
 unfold ixByte ixb
 congr 1
 simp
theorem slite_eq (s:Str) (c:UInt8):internal_stringslite_Index s [c]=some (ixb s c):=by
 unfold internal_stringslite_Index internal_stringslite_IndexByte
 by_cases h:s=[c]
 ·subst h
  simp [ixb,Lib.indexByte]
 ·have:(decide (([c]:Str)=s))=false:=by simpa using fun e=>h e.symm
  simp only [this,len1,show decide ((1:Int)=0)=false from rfl,show decide ((1:Int)=1)=true from rfl,decide_true,Bool.or_false,cond_false,cond_true]
  show idxS [c] ((0:Nat):Int) _=_
  rw [idxS_eq (by simp)]
  simp only [call_some,List.getElem_cons_zero,indexByte_u8]
theorem index_eq (s:Str) (c:UInt8):strings_Index s [c]=some (ixb s c):=by
 unfold strings_Index
 rw [slite_eq]; rfl
theorem count_eq (s:Str) (c:UInt8):strings_Count s [c]=some ((s.count c:Nat):Int):=by
 unfold strings_Count
 simp only [len1,show decide ((1:Int)=0)=false from rfl,show decide ((1:Int)=1)=true from rfl,decide_true,cond_false,cond_true]
 show idxS [c] ((0:Nat):Int) _=_
 rw [idxS_eq (by simp)]
 unfold cntByte
 simp
theorem drop_cut_count {c:UInt8} {s:Str} (h:c ∈ s):(cutAt c s).2.1.count c+1=s.count c:=by
 obtain ⟨h1,h2,h3⟩:=cutAt_some h
 conv=>rhs; rw [h2]
 rw [List.count_append,List.count_eq_zero_of_not_mem h3,List.count_cons_self]
 omega
theorem set_take {α:Type} (l:List α) (i:Nat) (x:α) (h:i < l.length):(l.set i x).take (i+1)=l.take i++[x]:=by
 rw [List.take_succ_eq_append_getElem (by simpa using h)]
 simp [List.take_set_of_le]
theorem split_eq (s:Str) (c:UInt8) (hs:s.length≤17179869184):strings_Split s [c]=some (splitAt c s):=by
 have hcl:=List.count_le_length (a:=c) (l:=s)
 have key:strings_genSplit s [c] 0 (-1)=some (splitAt c s):=by
  unfold strings_genSplit
  obtain ⟨N,hN⟩:∃ N,Fuel=N:=⟨_,rfl⟩
  have hN2:1099511627776≤N:=hN ▸ fuel_ge
  rw [hN]
  clear hN
  have hmin:min ((s.count c+1:Nat):Int) ((s.length+1:Nat):Int)=((s.count c+1:Nat):Int):=by omega
  simp only [jp_eq,count_eq,call_some,show decide ((-1:Int)=0)=false from rfl,show decide ((-1:Int) < 0)=true from rfl,show decide (([c]:Str)=[])=false from rfl,cond_true,cond_false]
  simp only [wrap1 (s.count c) (by omega),wrap1 s.length (by omega),hmin]
  rw [chk_true (by omega)]
  have hw:IntKind.i64.wrap (((s.count c+1:Nat):Int) - 1)=((s.count c:Nat):Int):=by rw [wrapS (by omega) (by omega)]; omega
  simp only [hw,Int.toNat_natCast]
  refine (loopN_run (S:=Str × Int × List Str) (fun st=>∃ i:Nat,st.2.1=i∧st.2.2.length=s.count c+1∧st.1.length≤s.length∧i+st.1.count c=s.count c) (fun st=>s.count c - st.2.1.toNat)
   (fun st=>some (st.2.2.take st.2.1.toNat++splitAt c st.1)) ?_ N _ ⟨0,rfl,by simp,Nat.le_refl _,by simp⟩ (by simp only; omega)).trans ?_
  ·rintro ⟨t,i',o⟩ nx ⟨i,rfl,ho,ht,hc⟩ hnx
   simp only at ho ht hc hnx ⊢
   simp only [index_eq,call_some]
   by_cases hi:i < s.count c
   ·have hmem:c ∈ t:=by rw [← List.count_pos_iff]; omega
    obtain ⟨h1,h2,h3⟩:=cutAt_some hmem
    have hl:=(cutAt_len c t).2.2 h1
    obtain ⟨t1,t2⟩:=cutAt_take hmem
    rw [decide_eq_true (by omega),cond_true,ixb_some hmem,decide_eq_false (by omega),cond_false]
    have hw3:IntKind.i64.wrap (((cutAt c t).1.length:Int)+0)=((cutAt c t).1.length:Int):=by rw [wrapS (by omega) (by omega)]; omega
    have hw4:IntKind.i64.wrap (((cutAt c t).1.length:Int)+(([c]:Str).length:Int))=(((cutAt c t).1.length+1:Nat):Int):=wrap1 _ (by omega)
    simp only [hw3,hw4,wrap1 i (by omega),Int.toNat_natCast]
    rw [chk_true (by omega),chk_true (by omega),chk_true (by omega)]
    have hdc:=drop_cut_count hmem
    simp only [t1,t2]
    rw [hnx _ ⟨i+1,rfl,by simpa using ho,by simp only; omega,by simp only; omega⟩ (by simp only [Int.toNat_natCast]; omega)]
    simp only [Int.toNat_natCast]
    rw [set_take o i _ (by omega)]
    congr 1
    rw [show splitAt c t=(cutAt c t).1::splitAt c (cutAt c t).2.1 by rw [splitAt_cut,if_pos h1]]
    simp
   ·obtain rfl:i=s.count c:=by omega
    rw [decide_eq_false (by omega),cond_false]
    have hmem:c ∉ t:=by rw [← List.count_pos_iff]; omega
    rw [chk_true (by omega),wrap1 _ (by omega)]
    simp only [Int.toNat_natCast,List.length_set]
    rw [chk_true (by omega),set_take o _ _ (by omega),splitAt_none hmem]
  ·simp
 unfold strings_Split
 rw [key]; rfl
def allI {α:Type} (q:Nat→α→Bool):Nat→List α→Bool
 | _,[]=>true
 | i,x::l=>q i x && allI q (i+1) l
section
variable {Z α:Type}
theorem forL_allI {f:Nat→α→Unit→(Unit→Option Z)→(Unit→Option Z)→Option Z} {z:Z} (q:Nat→α→Bool) (hf:∀ i x nx k,f i x () nx k=bif q i x then nx () else some z) (k:Unit→Option Z) :
  ∀ (l:List α) (i:Nat),forL l i f () k=bif allI q i l then k () else some z
 | [],i=>rfl
 | x::l,i=>by
  unfold forL allI
  rw [hf,forL_allI q hf k l (i+1)]
  cases q i x <;> rfl
end
def smallB (c:UInt8):Bool:=decide (97≤(c.toNat:Int)) && decide ((c.toNat:Int)≤122)
def digitB (c:UInt8):Bool:=decide (48≤(c.toNat:Int)) && decide ((c.toNat:Int)≤57)
def nameB (c:UInt8):Bool:=((smallB c || digitB c) || decide ((c.toNat:Int)=45)) || decide ((c.toNat:Int)=46)
def nameOk (s:Str):Bool:=((s.all nameB && (!decide (s=[]) && decide ((s.length:Int)≤40))) && smallB (s.getD 0 0))
theorem orG (a b:Bool):(a || bif !a then b else false)=(a || b):=by cases a <;> rfl
theorem ver_IsName_1_eq (c:UInt8):ver_IsName_1 (c.toNat:Int)=some (nameB c):=by
 unfold ver_IsName_1 ver_isSmall ver_isDigit
 simp only [call_some,callG_some,orG]
 rfl
theorem ver_IsName_eq (s:Str):ver_IsName s=some (nameOk s):=by
 unfold ver_IsName ver_each_i1
 simp only [jp_eq]
 rw [forL_all nameB (fun i x nx k=>by simp only [ver_IsName_1_eq,call_some]; cases nameB x <;> rfl)]
 simp only [condS,call_some]
 rw [chk_true]
 ·unfold ver_isSmall
  simp only [callG_some]
  unfold nameOk smallB
  generalize hA:s.all nameB=A
  cases A <;> simp only [cond_true,cond_false,Bool.false_and,Bool.true_and]
  generalize hB:(!decide (s=[]) && decide ((s.length:Int)≤40))=B
  cases B <;> rfl
 ·intro h
  cases s with
  | nil=>cases hA:List.all [] nameB <;> rw [hA] at h <;> simp at h
  | cons=>simp only [List.length_cons]; omega
theorem allI_all {α:Type} {q:Nat→α→Bool} {p:α→Bool}:∀ (l:List α) (i:Nat),(∀ j x,i≤j→q j x=p x)→allI q i l=l.all p
 | [],i,_=>rfl
 | x::l,i,h=>by
  unfold allI
  rw [h i x (Nat.le_refl _),allI_all l (i+1) (fun j x hj=>h j x (by omega)),List.all_cons]
theorem R_IsName_eq (s:Str):R_IsName s=some (nameOk s):=by
 unfold R_IsName
 simp only [jp_eq]
 refine (forL_allI (z:=false) (fun i c=>!((decide ((i:Int)=0) && !smallB c) || !nameB c)) (fun i c nx k=>?_) _ _ _).trans ?_
 ·rw [condN]
  congr 1
  unfold nameB smallB digitB
  rw [Bool.eq_iff_iff]
  simp only [Bool.or_eq_true,Bool.and_eq_true,Bool.not_eq_true',decide_eq_true_eq,Bool.or_eq_false_iff,Bool.and_eq_false_iff,decide_eq_false_iff_not,Bool.not_eq_false']
  omega
 simp only [condS]
 congr 1
 unfold nameOk
 cases s with
 | nil=>rfl
 | cons x l =>
  unfold allI
  rw [allI_all (p:=nameB) l 1 (fun j x hj=>by rw [decide_eq_false (by omega)]; cases nameB x <;> rfl),List.all_cons]
  simp only [List.getD_cons_zero]
  cases nameB x <;> cases smallB x <;> cases l.all nameB <;> simp
def valB (c:UInt8):Bool:=decide (32≤(c.toNat:Int)) && decide ((c.toNat:Int)≤126)
def valueOk (s:Str):Bool:=s.all valB && decide ((s.length:Int)≤1000)
theorem R_IsValue_eq (s:Str):R_IsValue s=some (valueOk s):=by
 unfold R_IsValue
 simp only [jp_eq]
 refine (forL_all (z:=false) valB (fun i c nx k=>?_) _ _ _).trans ?_
 ·rw [condN]
  congr 1
  unfold valB
  rw [Bool.eq_iff_iff]
  simp only [Bool.or_eq_true,Bool.and_eq_true,Bool.not_eq_true',decide_eq_true_eq,Bool.or_eq_false_iff,Bool.and_eq_false_iff,decide_eq_false_iff_not,Bool.not_eq_false']
  omega
 ·simp only [condS]
  unfold valueOk
  cases s.all valB <;> rfl
theorem ver_IsValue_eq (s:Str):ver_IsValue s=some (valueOk s):=by
 unfold ver_IsValue ver_each_i2
 simp only [jp_eq]
 rw [forL_all valB (fun i x nx k=>by unfold ver_IsValue_1 valB; simp only [call_some]; rw [condN,Bool.not_not])]
 simp only [condS,callG_some]
 unfold valueOk
 cases s with
 | nil=>rfl
 | cons x l=>simp only [show decide (x::l=[])=false from rfl,Bool.not_false,Bool.true_and,cond_true,Bool.false_or]; cases List.all (x::l) valB <;> rfl
def partB (c:UInt8):Bool:=((((smallB c || (decide (65≤(c.toNat:Int)) && decide ((c.toNat:Int)≤90))) || digitB c) || decide ((c.toNat:Int)=45)) || decide ((c.toNat:Int)=46)) || decide ((c.toNat:Int)=95)
def partOk (s:Str):Bool:=((s.all partB && (!decide (s=[]) && decide ((s.length:Int)≤40))) && !decide (s=[46])) && !decide (s=[46,46])
theorem R_isPart_eq (s:Str):R_isPart s=some (partOk s):=by
 unfold R_isPart
 simp only [jp_eq]
 refine (forL_all (z:=false) partB (fun i c nx k=>?_) _ _ _).trans ?_
 ·rw [condN]
  congr 1
  unfold partB smallB digitB
  rw [Bool.eq_iff_iff]
  simp only [Bool.or_eq_true,Bool.and_eq_true,Bool.not_eq_true',decide_eq_true_eq,Bool.or_eq_false_iff,Bool.and_eq_false_iff,decide_eq_false_iff_not,Bool.not_eq_false']
  omega
 ·simp only [condS]
  unfold partOk
  cases s.all partB <;> rfl
theorem orG3 (a b d:Bool):((a || b) || bif !(a || b) then d else false)=((a || b) || d):=by cases a <;> cases b <;> rfl
theorem ver_isPart_eq (s:Str):ver_isPart s=some (partOk s):=by
 unfold ver_isPart ver_each_i3
 simp only [jp_eq]
 rw [forL_all partB (fun i x nx k=>by
  unfold ver_isPart_1 partB ver_isSmall ver_isDigit smallB digitB
  simp only [call_some,callG_some,orG3]
  rw [condN,Bool.not_not])]
 simp only [condS,call_some]
 unfold partOk
 cases s.all partB <;> rfl
def pathOk (s:Str):Bool:=(splitAt 47 s).all partOk && decide ((s.length:Int)≤200)
theorem R_IsPath_eq (s:Str) (hs:s.length≤17179869184):R_IsPath s=some (pathOk s):=by
 unfold R_IsPath pathOk
 simp only [jp_eq,split_eq s 47 hs,call_some]
 rw [forL_all partOk (fun i x nx k=>by rw [R_isPart_eq,call_some,condN,Bool.not_not])]
 cases (splitAt 47 s).all partOk <;> rfl
theorem ver_IsPath_eq (s:Str) (hs:s.length≤17179869184):ver_IsPath s=some (pathOk s):=by
 unfold ver_IsPath pathOk
 simp only [jp_eq,split_eq s 47 hs,call_some]
 rw [forL_all partOk (fun i x nx k=>by rw [ver_isPart_eq,call_some,condN,Bool.not_not])]
 cases (splitAt 47 s).all partOk <;> rfl
def strLe (a b:Str):Bool:=strLt a b || decide (a=b)
theorem when_eq (b:Bool) (e:Int):R_when b e=some (bif b then e else 0):=by cases b <;> rfl
def or2 (a b:Int):Int:=bif !decide (a=0) then a else b
theorem first1 (a:Int):R_first [a]=some a:=by
 unfold R_first
 simp only [jp_eq,forL]
 by_cases h:a=0
 ·subst h; rfl
 ·rw [decide_eq_false h]; rfl
theorem first_cons (a:Int) (l:List Int) (r:Int) (h:R_first l=some r):R_first (a::l)=some (or2 a r):=by
 unfold R_first at *
 simp only [jp_eq,forL] at *
 unfold or2
 by_cases ha:a=0
 ·subst ha
  simp only [decide_true,Bool.not_true,cond_false]
  rw [← h]
  have:∀ (l:List Int) (i j:Nat),forL l i (fun i_14 e_16 s nx_13 k_12=>bif !decide (e_16=0) then some e_16 else nx_13 ()) () (fun _=>some (0:Int))=forL l j (fun i_14 e_16 s nx_13 k_12=>bif !decide (e_16=0) then some e_16 else nx_13 ()) () (fun _=>some (0:Int)):=by
   intro l
   induction l with
   | nil=>intro i j; rfl
   | cons x l ih=>intro i j; unfold forL; simp only [ih (i+1) (j+1)]
  exact this l _ _
 ·rw [decide_eq_false ha]; rfl
theorem first2 (a b:Int):R_first [a,b]=some (or2 a b):=first_cons a _ _ (first1 b)
theorem first3 (a b c:Int):R_first [a,b,c]=some (or2 a (or2 b c)):=first_cons a _ _ (first2 b c)
def eFact (s:api_Setting):Int:=bif !nameOk s.Key then 5 else bif !valueOk s.Value then 2 else 0
def eSet (s:api_Setting):Int:=bif !pathOk s.Key then 5 else bif !valueOk s.Value then 2 else 0
def eFile (f:api_File):Int:=bif !pathOk f.Path then 5 else bif decide (65536 < (f.Data.length:Int)) then 4 else 0
def eSvc (s:api_Service):Int:=bif !nameOk s.Name || !pathOk s.Path then 5 else 0
def ord (i:Nat) (a last:Str):Bool:=decide (0 < (i:Int)) && strLe a last
def firstE {α:Type} (e:α→Int) (nm:α→Str):Nat→Str→List α→Int
 | _,_,[]=>0
 | i,last,x::l=>bif !decide (e x=0) then e x else bif ord i (nm x) last then 7 else firstE e nm (i+1) (nm x) l
theorem firstE_zero {α:Type} (e:α→Int) (nm:α→Str) (a b:Str) (l:List α):firstE e nm 0 a l=firstE e nm 0 b l:=by
 cases l <;> rfl
section
variable {Z α:Type} {e:α→Int} {nm:α→Str}
theorem loopR {f:Nat→α→Str→(Str→Option Int)→(Str→Option Int)→Option Int} {K:Str→Option Int} (P:α→Prop)
  (hf:∀ i x last nx k,P x→f i x last nx k=bif !decide (or2 (e x) (bif ord i (nm x) last then 7 else 0)=0) then some (or2 (e x) (bif ord i (nm x) last then 7 else 0)) else nx (nm x)) :
  ∀ (l:List α) (i:Nat) (last:Str),(∀ x ∈ l,P x)→∃ last',forL l i f last K=bif !decide (firstE e nm i last l=0) then some (firstE e nm i last l) else K last'
 | [],i,last,_=>⟨last,rfl⟩
 | x::l,i,last,hp=>by
  obtain ⟨last',h⟩:=loopR P hf l (i+1) (nm x) (fun y hy=>hp y (List.mem_cons_of_mem _ hy))
  refine ⟨last',?_⟩
  unfold forL firstE
  rw [hf _ _ _ _ _ (hp x (List.mem_cons_self ..)),h]
  unfold or2
  by_cases h1:e x=0
  ·simp only [h1,decide_true,Bool.not_true,cond_false]
   cases ord i (nm x) last <;> rfl
  ·simp only [decide_eq_false h1,Bool.not_false,cond_true]
theorem loopD {f:Nat→α→Unit→(Unit→Option Int)→(Unit→Option Int)→Option Int} {K:Unit→Option Int} (P:α→Prop) (L:List α) (d:α)
  (hf:∀ (i:Nat) x nx k,P x→i < L.length→f i x () nx k=bif !decide (e x=0) then some (e x) else bif ord i (nm x) (nm (L.getD (i - 1) d)) then some 7 else nx ()) :
  ∀ (l:List α) (i:Nat),L.drop i=l→(∀ x ∈ l,P x)→forL l i f () K=bif !decide (firstE e nm i (nm (L.getD (i - 1) d)) l=0) then some (firstE e nm i (nm (L.getD (i - 1) d)) l) else K ()
 | [],i,_,_=>rfl
 | x::l,i,hd,hp=>by
  have hi:i < L.length:=by
   rcases Nat.lt_or_ge i L.length with h | h
   ·exact h
   ·rw [List.drop_eq_nil_of_le h] at hd; cases hd
  have hx:L.getD i d=x:=by
   have:=List.drop_eq_getElem_cons hi
   rw [hd] at this
   have:=(List.cons.inj this).1
   rw [this]; simp [hi]
  have hd':L.drop (i+1)=l:=by
   have:=congrArg List.tail hd
   simpa using this
  unfold forL firstE
  rw [hf _ _ _ _ (hp x (List.mem_cons_self ..)) hi,loopD P L d hf l (i+1) hd' (fun y hy=>hp y (List.mem_cons_of_mem _ hy))]
  simp only [Nat.add_sub_cancel,hx]
  by_cases h1:e x=0
  ·simp only [h1,decide_true,Bool.not_true,cond_false]
   cases ord i (nm x) (nm (L.getD (i - 1) d)) <;> rfl
  ·simp only [decide_eq_false h1,Bool.not_false,cond_true]
end
theorem chk1_eq (i:Nat) (s last:Str):R_Check_1_i1 (i:Int) s last=some ((bif ord i s last then 7 else 0),s):=by
 unfold R_Check_1_i1
 rw [when_eq,call_some]; rfl
def Sm (s:Str):Prop:=s.length≤17179869184
theorem R_fileError_eq (f:api_File) (h:Sm f.Path):R_fileError f=some (eFile f):=by
 unfold R_fileError
 rw [R_IsPath_eq _ h]
 simp only [call_some,when_eq,first2]
 unfold eFile or2
 cases pathOk f.Path <;> rfl
theorem R_settingError_eq (f:api_Setting) (h:Sm f.Key):R_settingError f=some (eSet f):=by
 unfold R_settingError
 rw [R_IsPath_eq _ h,R_IsValue_eq]
 simp only [call_some,when_eq,first2]
 unfold eSet or2
 cases pathOk f.Key <;> rfl
theorem R_serviceError_eq (f:api_Service) (h:Sm f.Path):R_serviceError f=some (eSvc f):=by
 unfold R_serviceError
 rw [R_IsPath_eq _ h,R_IsName_eq]
 simp only [call_some,callG_some,when_eq]
 unfold eSvc
 cases nameOk f.Name <;> cases pathOk f.Path <;> rfl
theorem D_fileFault_eq (f:api_File) (h:Sm f.Path):disk_fileFault f=some (eFile f):=by
 unfold disk_fileFault
 rw [ver_IsPath_eq _ h]
 simp only [call_some]
 unfold eFile
 cases pathOk f.Path
 ·rfl
 ·simp only [Bool.not_true,cond_false,condS]
theorem D_set_eq (f:api_Setting) (h:Sm f.Key):disk_Check_3 f=some (eSet f):=by
 unfold disk_Check_3 disk_settingFault_i2
 rw [ver_IsPath_eq _ h,ver_IsValue_eq]
 simp only [call_some]
 unfold eSet
 cases pathOk f.Key <;> cases valueOk f.Value <;> rfl
theorem D_fact_eq (f:api_Setting):disk_Check_1 f=some (eFact f):=by
 unfold disk_Check_1 disk_settingFault_i1
 rw [ver_IsName_eq,ver_IsValue_eq]
 simp only [call_some]
 unfold eFact
 cases nameOk f.Key <;> cases valueOk f.Value <;> rfl
theorem D_svc_eq (f:api_Service) (h:Sm f.Path):disk_serviceFault f=some (eSvc f):=by
 unfold disk_serviceFault
 rw [ver_IsPath_eq _ h,ver_IsName_eq]
 simp only [call_some,callG_some]
 unfold eSvc
 cases nameOk f.Name <;> cases pathOk f.Path <;> rfl
theorem wrap_pred {i:Nat} (h:0 < i) (h2:i≤274877906944):IntKind.i64.wrap ((i:Int) - 1)=((i - 1:Nat):Int):=by rw [wrapS (by omega) (by omega)]; omega
theorem ordE {i:Nat} {a b:Str}:(decide (0 < (i:Int)) && (strLt a b || decide (a=b)))=ord i a b:=rfl
theorem eachSet1 (l:List api_Setting) (hl:l.length≤17179869184):disk_eachFault_api_Setting_i1 l=some (firstE eFact (·.Key) 0 [] l):=by
 unfold disk_eachFault_api_Setting_i1
 simp only [jp_eq]
 rw [loopD (e:=eFact) (nm:=(·.Key)) (fun _=>True) l ⟨[],[]⟩ (fun i x nx k _ hi=>by
  rw [D_fact_eq]
  simp only [call_some,disk_keyOf,callG_some]
  cases hg:decide (0 < (i:Int)) with
  | false=>rw [chk_true (by intro h; cases h)]; unfold ord; rw [hg]; rfl
  | true =>
   have hi0:0 < i:=by simpa using hg
   rw [wrap_pred hi0 (by omega),chk_true (by intro _; omega)]
   simp only [cond_true,Int.toNat_natCast]
   unfold ord strLe; rw [hg]) l 0 rfl (fun _ _=>trivial)]
 rw [condS]
 rw [firstE_zero eFact (·.Key) _ []]
 cases h:decide (firstE eFact (·.Key) 0 [] l=0)
 ·rfl
 ·rw [of_decide_eq_true h]; rfl
theorem eachSet2 (l:List api_Setting) (hl:l.length≤17179869184) (hs:∀ x ∈ l,Sm x.Key):disk_eachFault_api_Setting_i2 l=some (firstE eSet (·.Key) 0 [] l):=by
 unfold disk_eachFault_api_Setting_i2
 simp only [jp_eq]
 rw [loopD (e:=eSet) (nm:=(·.Key)) (fun x=>Sm x.Key) l ⟨[],[]⟩ (fun i x nx k hx hi=>by
  rw [D_set_eq _ hx]
  simp only [call_some,disk_keyOf,callG_some]
  cases hg:decide (0 < (i:Int)) with
  | false=>rw [chk_true (by intro h; cases h)]; unfold ord; rw [hg]; rfl
  | true =>
   have hi0:0 < i:=by simpa using hg
   rw [wrap_pred hi0 (by omega),chk_true (by intro _; omega)]
   simp only [cond_true,Int.toNat_natCast]
   unfold ord strLe; rw [hg]) l 0 rfl hs]
 rw [condS]
 rw [firstE_zero eSet (·.Key) _ []]
 cases h:decide (firstE eSet (·.Key) 0 [] l=0)
 ·rfl
 ·rw [of_decide_eq_true h]; rfl
theorem eachSvc (l:List api_Service) (hl:l.length≤17179869184) (hs:∀ x ∈ l,Sm x.Path):disk_eachFault_api_Service_i1 l=some (firstE eSvc (·.Name) 0 [] l):=by
 unfold disk_eachFault_api_Service_i1
 simp only [jp_eq]
 rw [loopD (e:=eSvc) (nm:=(·.Name)) (fun x=>Sm x.Path) l ⟨[],[],false,false⟩ (fun i x nx k hx hi=>by
  rw [D_svc_eq _ hx]
  simp only [call_some,disk_nameOf,callG_some]
  cases hg:decide (0 < (i:Int)) with
  | false=>rw [chk_true (by intro h; cases h)]; unfold ord; rw [hg]; rfl
  | true =>
   have hi0:0 < i:=by simpa using hg
   rw [wrap_pred hi0 (by omega),chk_true (by intro _; omega)]
   simp only [cond_true,Int.toNat_natCast]
   unfold ord strLe; rw [hg]) l 0 rfl hs]
 rw [condS]
 rw [firstE_zero eSvc (·.Name) _ []]
 cases h:decide (firstE eSvc (·.Name) 0 [] l=0)
 ·rfl
 ·rw [of_decide_eq_true h]; rfl
abbrev Mp:=List (Str × Bool)
def abvQ (m:Mp) (path:Str) (i:Nat) (c:UInt8):Bool:=!(decide ((c.toNat:Int)=47) && (alook m (path.take i)).getD false)
def abv (m:Mp) (path:Str):Bool:=allI (abvQ m path) 0 path
def filesE:Nat→Str→Mp→List api_File→Int
 | _,_,_,[]=>0
 | i,last,m,x::l=>bif !decide (eFile x=0) then eFile x else bif ord i x.Path last then 7 else bif !abv m x.Path then 11 else filesE (i+1) x.Path (aset m x.Path true) l
theorem filesE_zero (a b:Str) (m:Mp) (l:List api_File):filesE 0 a m l=filesE 0 b m l:=by cases l <;> rfl
theorem aset_len:∀ (m:Mp) (k:Str) (v:Bool),(aset m k v).length≤m.length+1
 | [],k,v=>by simp [aset]
 | p::m,k,v=>by
  unfold aset
  have:=aset_len m k v
  cases decide (p.1=k) <;> simp <;> omega
theorem above_eq (path:Str) (m:Mp):disk_above_i1 path m=some (abv m path):=by
 unfold disk_above_i1
 simp only [jp_eq]
 have hk:∀ i:Nat,True:=fun _=>trivial
 have:∀ (l:Str) (i:Nat),path.drop i=l→forL l i (fun i_44 c_46 s nx_43 k_42 =>
  chk ((decide ((c_46.toNat:Int)=47))=true→(0≤(i_44:Int)∧(i_44:Int)≤(path.length:Int))) <|
  callG (decide ((c_46.toNat:Int)=47)) (disk_Check_2_i1 (List.take i_44 path) m) false fun r_48 =>
  bif ((decide ((c_46.toNat:Int)=47)) && (!r_48)) then
   some false
  else
  nx_43 ()) () (fun _=>some true)=some (allI (abvQ m path) i l):=by
  intro l
  induction l with
  | nil=>intro i _; rfl
  | cons c l ih =>
   intro i hd
   have hi:i < path.length:=by
    rcases Nat.lt_or_ge i path.length with h | h
    ·exact h
    ·rw [List.drop_eq_nil_of_le h] at hd; cases hd
   unfold forL allI
   simp only [ih (i+1) (by have:=congrArg List.tail hd; simpa using this)]
   rw [chk_true (by intro _; omega)]
   simp only [disk_Check_2_i1,letv,callG_some]
   unfold abvQ
   cases decide ((c.toNat:Int)=47) <;> cases (alook m (List.take i path)).getD false <;> rfl
 exact this path 0 rfl
theorem behindLoop (path:Str) (m:Mp) {f:Int × Int→(Int × Int→Option Int)→(Int × Int→Option Int)→Option Int} {K:Int × Int→Option Int} (hp:path.length≤17179869184)
  (hf:∀ (e:Int) (i:Nat) nx,f (e,(i:Int)) nx K=if h:i < path.length then nx ((bif abvQ m path i path[i] then e else 11),((i+1:Nat):Int)) else K (e,(i:Int))) :
  ∀ (n:Nat) (e:Int) (i:Nat),path.length+1≤n+i→i≤path.length→loopN n f (e,(i:Int)) K=K ((bif allI (abvQ m path) i (path.drop i) then e else 11),(path.length:Int))
 | 0,e,i,h1,h2=>by omega
 | n+1,e,i,h1,h2=>by
  unfold loopN
  rw [hf]
  by_cases h:i < path.length
  ·rw [dif_pos h,behindLoop path m hp hf n _ (i+1) (by omega) (by omega),List.drop_eq_getElem_cons h]
   rw [show allI (abvQ m path) i (path[i]::path.drop (i+1))=(abvQ m path i path[i] && allI (abvQ m path) (i+1) (path.drop (i+1))) from rfl]
   cases abvQ m path i path[i] <;> cases allI (abvQ m path) (i+1) (path.drop (i+1)) <;> rfl
  ·have:i=path.length:=by omega
   subst this
   rw [dif_neg h,List.drop_length]; rfl
theorem filesR {f:Nat→api_File→Str × Mp→(Str × Mp→Option Int)→(Str × Mp→Option Int)→Option Int} {K:Str × Mp→Option Int}
  (hf:∀ (i:Nat) x last (m:Mp) nx,Sm x.Path→m.length+1≤17179869184→f i x (last,m) nx K=bif !decide (eFile x=0) then some (eFile x) else bif ord i x.Path last then some 7 else bif !abv m x.Path then some 11 else nx (x.Path,aset m x.Path true)) :
  ∀ (l:List api_File) (i:Nat) (last:Str) (m:Mp),m.length+l.length≤17179869184→(∀ x ∈ l,Sm x.Path)→∃ s',forL l i f (last,m) K=bif !decide (filesE i last m l=0) then some (filesE i last m l) else K s'
 | [],i,last,m,_,_=>⟨(last,m),rfl⟩
 | x::l,i,last,m,hm,hp=>by
  have ha:=aset_len m x.Path true
  simp only [List.length_cons] at hm
  obtain ⟨s',h⟩:=filesR hf l (i+1) x.Path (aset m x.Path true) (by omega) (fun y hy=>hp y (List.mem_cons_of_mem _ hy))
  refine ⟨s',?_⟩
  unfold forL filesE
  rw [hf _ _ _ _ _ (hp x (List.mem_cons_self ..)) (by omega),h]
  by_cases h1:eFile x=0
  ·simp only [h1,decide_true,Bool.not_true,cond_false]
   cases ord i x.Path last
   ·cases abv m x.Path <;> rfl
   ·rfl
  ·simp only [decide_eq_false h1,Bool.not_false,cond_true]
def checkE (m:api_Machine):Int :=
 bif ((((decide (100 < (m.Facts.length:Int))) || (decide (2000 < (m.Files.length:Int)))) || (decide (2000 < (m.Settings.length:Int)))) || (decide (100 < (m.Services.length:Int)))) then 4 else
 or2 (firstE eFact (·.Key) 0 [] m.Facts) (or2 (filesE 0 [] [] m.Files) (or2 (firstE eSet (·.Key) 0 [] m.Settings) (firstE eSvc (·.Name) 0 [] m.Services)))
structure Fit (m:api_Machine):Prop where
 facts:m.Facts.length≤17179869184
 files:m.Files.length≤17179869184
 sets:m.Settings.length≤17179869184
 svcs:m.Services.length≤17179869184
 fp:∀ x ∈ m.Files,Sm x.Path
 sp:∀ x ∈ m.Settings,Sm x.Key
 vp:∀ x ∈ m.Services,Sm x.Path
theorem or2_step (a b:Int) (o:Option Int) (h:o=some b):(bif !decide (a=0) then some a else o)=some (or2 a b):=by
 subst h; unfold or2; cases decide (a=0) <;> rfl
theorem disk_Check_eq (m:api_Machine) (h:Fit m):disk_Check m=some (checkE m):=by
 unfold disk_Check checkE
 generalize ((((decide (100 < (m.Facts.length:Int))) || (decide (2000 < (m.Files.length:Int)))) || (decide (2000 < (m.Settings.length:Int)))) || (decide (100 < (m.Services.length:Int))))=B
 cases B with
 | true=>rfl
 | false =>
  simp only [cond_false]
  rw [eachSet1 _ h.facts,call_some]
  refine or2_step _ _ _ ?_
  simp only [jp_eq]
  obtain ⟨s',hs⟩:=filesR (f:=fun i_47 f_49 s nx_46 k_45 =>
   match s with
   | (before_37,m1_39) =>
    call (disk_fileFault f_49) fun r_50 =>
    bif !decide (r_50=0) then
     some r_50
    else
    bif ((decide (0 < (i_47:Int))) && (strLt f_49.Path before_37 || decide (f_49.Path=before_37))) then
     some 7
    else
    call (disk_above_i1 f_49.Path m1_39) fun r_51 =>
    bif !r_51 then
     some 11
    else
    chk ((aset m1_39 f_49.Path true).length≤274877906944) <|
    nx_46 (f_49.Path,aset m1_39 f_49.Path true)) (K:=fun s=>match s with
   | (before_37,m1_39)=>call (disk_eachFault_api_Setting_i2 m.Settings) fun r_28 =>
    bif !decide (r_28=0) then
     some r_28
    else
    call (disk_eachFault_api_Service_i1 m.Services) fun r_29 =>
    some r_29) (fun i x last mm nx hx hl=>by
    have ha:=aset_len mm x.Path true
    simp only [D_fileFault_eq _ hx,call_some,above_eq,ordE]
    rw [chk_true (by omega)]) m.Files 0 [] [] (by simpa using h.files) h.fp
  rw [hs]
  refine or2_step _ _ _ ?_
  obtain ⟨x,y⟩:=s'
  simp only [eachSet2 _ h.sets h.sp,eachSvc _ h.svcs h.vp,call_some]
  exact or2_step _ _ _ rfl
theorem loopR_or {α:Type} {e:α→Int} {nm:α→Str} {f:Nat→α→Str→(Str→Option Int)→(Str→Option Int)→Option Int} {K:Str→Option Int} {r:Int} {l:List α} {last:Str} (P:α→Prop)
  (hf:∀ i x last nx k,P x→f i x last nx k=bif !decide (or2 (e x) (bif ord i (nm x) last then 7 else 0)=0) then some (or2 (e x) (bif ord i (nm x) last then 7 else 0)) else nx (nm x))
  (hp:∀ x ∈ l,P x) (hK:∀ last,K last=some r):forL l 0 f last K=some (or2 (firstE e nm 0 [] l) r):=by
 obtain ⟨last',h⟩:=loopR (K:=K) P hf l 0 last hp
 rw [h,firstE_zero e nm last []]
 exact or2_step _ _ _ (hK _)
theorem filesR_or {f:Nat→api_File→Str × Mp→(Str × Mp→Option Int)→(Str × Mp→Option Int)→Option Int} {K:Str × Mp→Option Int} {r:Int} {l:List api_File} {last:Str}
  (hf:∀ (i:Nat) x last (m:Mp) nx,Sm x.Path→m.length+1≤17179869184→f i x (last,m) nx K=bif !decide (eFile x=0) then some (eFile x) else bif ord i x.Path last then some 7 else bif !abv m x.Path then some 11 else nx (x.Path,aset m x.Path true))
  (hl:l.length≤17179869184) (hp:∀ x ∈ l,Sm x.Path) (hK:∀ s,K s=some r):forL l 0 f (last,[]) K=some (or2 (filesE 0 [] [] l) r):=by
 obtain ⟨s',h⟩:=filesR (K:=K) hf l 0 last [] (by simpa using hl) hp
 rw [h,filesE_zero last []]
 exact or2_step _ _ _ (hK _)
theorem behind_or (path:Str) (m:Mp) {f:Int × Int→(Int × Int→Option Int)→(Int × Int→Option Int)→Option Int} {K:Int × Int→Option Int} {N:Nat} {e:Int} (hN:1099511627776≤N) (hp:path.length≤17179869184)
  (hf:∀ (e:Int) (i:Nat) nx,f (e,(i:Int)) nx K=if h:i < path.length then nx ((bif abvQ m path i path[i] then e else 11),((i+1:Nat):Int)) else K (e,(i:Int))) :
  loopN N f (e,0) K=K ((bif abv m path then e else 11),(path.length:Int)) :=
 behindLoop path m hp hf N e 0 (by omega) (by omega)
theorem R_Check_eq (m:api_Machine) (h:Fit m):R_Check m=some (checkE m):=by
 unfold R_Check checkE
 generalize ((((decide (100 < (m.Facts.length:Int))) || (decide (2000 < (m.Files.length:Int)))) || (decide (2000 < (m.Settings.length:Int)))) || (decide (100 < (m.Services.length:Int))))=B
 obtain ⟨N,hN⟩:∃ N,Fuel=N:=⟨_,rfl⟩
 have hN2:1099511627776≤N:=hN ▸ fuel_ge
 rw [hN]
 clear hN
 cases B with
 | true=>rfl
 | false =>
  simp only [cond_false,jp_eq]
  refine loopR_or (e:=eFact) (nm:=(·.Key)) (fun _=>True) (fun i x last nx k _=>?_) (fun _ _=>trivial) fun last=>?_
  ·simp only [R_IsName_eq,R_IsValue_eq,call_some,when_eq,chk1_eq,first3]
   unfold eFact or2
   cases nameOk x.Key <;> cases valueOk x.Value <;> cases ord i x.Key last <;> rfl
  refine filesR_or (fun i x last mm nx hx hl=>?_) h.files h.fp fun s=>?_
  ·have ha:=aset_len mm x.Path true
   simp only [R_fileError_eq _ hx,call_some,chk1_eq,first2]
   by_cases h1:eFile x=0
   ·cases ho:ord i x.Path last with
    | true=>simp only [h1,cond_true,show or2 0 7=7 from rfl]; rfl
    | false =>
     simp only [h1,cond_false,show or2 0 0=0 from rfl,decide_true,Bool.not_true,cond_true]
     rw [behind_or x.Path mm hN2 hx (fun e i nx=>?_)]
     ·rw [chk_true (by omega)]
      cases abv mm x.Path <;> rfl
     ·simp only [letv]
      by_cases hi:i < x.Path.length
      ·rw [dif_pos hi,decide_eq_true (by omega),cond_true,idxS_eq hi,chk_true (by intro _; omega)]
       have hw:IntKind.i64.wrap ((i:Int)+1)=((i+1:Nat):Int):=by
        have:x.Path.length≤17179869184:=hx
        rw [wrapS (by omega) (by omega)]; rfl
       simp only [hw,Int.toNat_natCast]
       unfold abvQ
       cases decide (((x.Path[i]).toNat:Int)=47) && (alook mm (List.take i x.Path)).getD false <;> rfl
      ·rw [dif_neg hi,decide_eq_false (by omega),cond_false]
   ·have:or2 (eFile x) (bif ord i x.Path last then 7 else 0)=eFile x:=by unfold or2; rw [decide_eq_false h1]; rfl
    simp only [this,decide_eq_false h1,Bool.not_false,cond_true,cond_false]
  obtain ⟨last,mm⟩:=s
  refine loopR_or (e:=eSet) (nm:=(·.Key)) (fun x=>Sm x.Key) (fun i x last nx k hx=>?_) h.sp fun last=>?_
  ·simp only [R_settingError_eq _ hx,call_some,chk1_eq,first2]
  rw [show firstE eSvc (fun x=>x.Name) 0 [] m.Services=or2 (firstE eSvc (fun x=>x.Name) 0 [] m.Services) 0 by unfold or2; cases hh:decide (firstE eSvc (fun x=>x.Name) 0 [] m.Services=0) <;> simp_all]
  refine loopR_or (e:=eSvc) (nm:=(·.Name)) (fun x=>Sm x.Path) (fun i x last nx k hx=>?_) h.vp fun last=>rfl
  simp only [R_serviceError_eq _ hx,call_some,chk1_eq,first2]
def noFile:api_File:=⟨[],[],false⟩
def noSet:api_Setting:=⟨[],[]⟩
def noSvc:api_Service:=⟨[],[],false,false⟩
def eNeed (c:api_Change):Int :=
 bif decide (c.Kind=1) then eFile c.File else
 bif decide (c.Kind=2) then (bif !pathOk c.File.Path then 5 else 0) else
 bif decide (c.Kind=3) then eSet c.Setting else
 bif decide (c.Kind=4) then (bif !pathOk c.Setting.Key then 5 else 0) else
 bif decide (c.Kind=5) then eSvc c.Service else
 bif !nameOk c.Service.Name then 5 else 0
def keptC (c:api_Change):api_Change :=
 bif decide (c.Kind=1) then ⟨c.Kind,c.File,noSet,noSvc⟩ else
 bif decide (c.Kind=2) then ⟨c.Kind,⟨c.File.Path,[],false⟩,noSet,noSvc⟩ else
 bif decide (c.Kind=3) then ⟨c.Kind,noFile,c.Setting,noSvc⟩ else
 bif decide (c.Kind=4) then ⟨c.Kind,noFile,⟨c.Setting.Key,[]⟩,noSvc⟩ else
 bif decide (c.Kind=5) then ⟨c.Kind,noFile,noSet,c.Service⟩ else
 ⟨c.Kind,noFile,noSet,⟨c.Service.Name,[],false,false⟩⟩
def isKind (c:api_Change):Bool:=decide (1≤c.Kind) && decide (c.Kind≤6)
def eqFile (a b:api_File):Bool:=decide (a.Path=b.Path) && (decide (a.Data=b.Data) && decide (a.Runs=b.Runs))
def eqSet (a b:api_Setting):Bool:=decide (a.Key=b.Key) && decide (a.Value=b.Value)
def eqSvc (a b:api_Service):Bool:=decide (a.Name=b.Name) && (decide (a.Path=b.Path) && (decide (a.Auto=b.Auto) && decide (a.On=b.On)))
def eqC (a b:api_Change):Bool:=(eqFile a.File b.File && (eqSet a.Setting b.Setting && eqSvc a.Service b.Service))
theorem eqFile_eq {a b:api_File} (h:eqFile a b=true):a=b:=by
 obtain ⟨a1,a2,a3⟩:=a
 obtain ⟨b1,b2,b3⟩:=b
 simp only [eqFile,Bool.and_eq_true,decide_eq_true_eq] at h
 obtain ⟨rfl,rfl,rfl⟩:=h; rfl
theorem eqSet_eq {a b:api_Setting} (h:eqSet a b=true):a=b:=by
 obtain ⟨a1,a2⟩:=a
 obtain ⟨b1,b2⟩:=b
 simp only [eqSet,Bool.and_eq_true,decide_eq_true_eq] at h
 obtain ⟨rfl,rfl⟩:=h; rfl
theorem eqSvc_eq {a b:api_Service} (h:eqSvc a b=true):a=b:=by
 obtain ⟨a1,a2,a3,a4⟩:=a
 obtain ⟨b1,b2,b3,b4⟩:=b
 simp only [eqSvc,Bool.and_eq_true,decide_eq_true_eq] at h
 obtain ⟨rfl,rfl,rfl,rfl⟩:=h; rfl
theorem eqC_eq {a b:api_Change} (hk:a.Kind=b.Kind) (h:eqC a b=true):a=b:=by
 obtain ⟨a0,a1,a2,a3⟩:=a
 obtain ⟨b0,b1,b2,b3⟩:=b
 simp only [eqC,Bool.and_eq_true] at h
 obtain ⟨h1,h2,h3⟩:=h
 simp only at hk
 rw [hk,eqFile_eq h1,eqSet_eq h2,eqSvc_eq h3]
def eCh (c:api_Change):Int:=bif !isKind c then 1 else bif decide (eNeed c=0) && !eqC c (keptC c) then 2 else eNeed c
structure SmC (c:api_Change):Prop where
 fp:Sm c.File.Path
 sp:Sm c.Setting.Key
 vp:Sm c.Service.Path
theorem D_set2 (f:api_Setting) (h:Sm f.Key):disk_settingFault_i2 f=some (eSet f):=by
 unfold disk_settingFault_i2
 rw [ver_IsPath_eq _ h,ver_IsValue_eq]
 simp only [call_some]
 unfold eSet
 cases pathOk f.Key <;> cases valueOk f.Value <;> rfl
theorem value_nil:valueOk []=true:=rfl
theorem eFile_nil (p:Str):eFile ⟨p,[],false⟩=bif !pathOk p then 5 else 0:=by
 unfold eFile
 cases pathOk p <;> rfl
theorem eSet_nil (p:Str):eSet ⟨p,[]⟩=bif !pathOk p then 5 else 0:=by
 unfold eSet
 simp only [value_nil]
 cases pathOk p <;> rfl
theorem kinds6 {n:Int} (h:(decide (1≤n) && decide (n≤6))=true):n=1 ∨ n=2 ∨ n=3 ∨ n=4 ∨ n=5 ∨ n=6:=by
 simp only [Bool.and_eq_true,decide_eq_true_eq] at h
 omega
theorem kinds0 {n:Int} (h:(decide (1≤n) && decide (n≤6))=false):decide (n=1)=false∧decide (n=2)=false∧decide (n=3)=false∧decide (n=4)=false∧decide (n=5)=false∧decide (n=6)=false:=by
 simp only [Bool.and_eq_false_iff,decide_eq_false_iff_not] at h
 refine ⟨?_,?_,?_,?_,?_,?_⟩ <;> (simp only [decide_eq_false_iff_not]; omega)
theorem D_change_eq (c:api_Change) (h:SmC c):disk_CheckChange c=some (eCh c):=by
 unfold disk_CheckChange eCh isKind
 simp only [jp_eq]
 cases hk:decide (1≤c.Kind) && decide (c.Kind≤6)
 ·obtain ⟨h1,h2,h3,h4,h5,h6⟩:=kinds0 hk
  rw [h1,h2,h3,h4,h5,h6]
  rfl
 ·simp only [Bool.not_true,cond_false]
  rw [D_fileFault_eq _ h.fp,D_fileFault_eq _ (show Sm (api_File.mk c.File.Path [] false).Path from h.fp),D_set2 _ h.sp,D_set2 _ (show Sm (api_Setting.mk c.Setting.Key []).Key from h.sp),D_svc_eq _ h.vp,ver_IsName_eq]
  simp only [call_some,eFile_nil,eSet_nil,decide_true,Bool.true_and]
  unfold eNeed keptC
  rcases kinds6 hk with e | e | e | e | e | e
  all_goals
   rw [e]
   simp only [show decide ((1:Int)=1)=true from rfl,show decide ((2:Int)=1)=false from rfl,show decide ((2:Int)=2)=true from rfl,show decide ((3:Int)=1)=false from rfl,show decide ((3:Int)=2)=false from rfl,show decide ((3:Int)=3)=true from rfl,show decide ((4:Int)=1)=false from rfl,show decide ((4:Int)=2)=false from rfl,show decide ((4:Int)=3)=false from rfl,show decide ((4:Int)=4)=true from rfl,
    show decide ((5:Int)=1)=false from rfl,show decide ((5:Int)=2)=false from rfl,show decide ((5:Int)=3)=false from rfl,show decide ((5:Int)=4)=false from rfl,show decide ((5:Int)=5)=true from rfl,show decide ((6:Int)=1)=false from rfl,show decide ((6:Int)=2)=false from rfl,show decide ((6:Int)=3)=false from rfl,show decide ((6:Int)=4)=false from rfl,show decide ((6:Int)=5)=false from rfl,show decide ((6:Int)=6)=true from rfl,decide_true,cond_true,cond_false]
   simp only [condS,eqC,eqFile,eqSet,eqSvc,noFile,noSet,noSvc,decide_true,Bool.true_and,Bool.and_true,Bool.and_assoc]
  ·rfl
  ·rfl
  ·rfl
  ·rfl
  ·rfl
  ·cases nameOk c.Service.Name <;> rfl
theorem or2_when (a:Int) (q:Bool):or2 a (bif !q then 2 else 0)=bif decide (a=0) && !q then 2 else a:=by
 unfold or2
 by_cases h:a=0
 ·subst h; cases q <;> rfl
 ·rw [decide_eq_false h]; rfl
theorem R_change_eq (c:api_Change) (h:SmC c):R_ChangeError c=some (eCh c):=by
 unfold R_ChangeError eCh isKind
 simp only [jp_eq]
 cases hk:decide (1≤c.Kind) && decide (c.Kind≤6)
 ·obtain ⟨h1,h2,h3,h4,h5,h6⟩:=kinds0 hk
  rw [h1,h2,h3,h4,h5,h6]
  rfl
 ·simp only [Bool.not_true,cond_false]
  rw [R_fileError_eq _ h.fp,R_settingError_eq _ h.sp,R_serviceError_eq _ h.vp,R_IsName_eq,R_IsPath_eq _ h.fp,R_IsPath_eq _ h.sp]
  simp only [call_some,when_eq,first2,decide_true,Bool.true_and,or2_when]
  unfold eNeed keptC
  rcases kinds6 hk with e | e | e | e | e | e
  all_goals
   rw [e]
   simp only [show decide ((1:Int)=1)=true from rfl,show decide ((2:Int)=1)=false from rfl,show decide ((2:Int)=2)=true from rfl,show decide ((3:Int)=1)=false from rfl,show decide ((3:Int)=2)=false from rfl,show decide ((3:Int)=3)=true from rfl,show decide ((4:Int)=1)=false from rfl,show decide ((4:Int)=2)=false from rfl,show decide ((4:Int)=3)=false from rfl,show decide ((4:Int)=4)=true from rfl,
    show decide ((5:Int)=1)=false from rfl,show decide ((5:Int)=2)=false from rfl,show decide ((5:Int)=3)=false from rfl,show decide ((5:Int)=4)=false from rfl,show decide ((5:Int)=5)=true from rfl,show decide ((6:Int)=1)=false from rfl,show decide ((6:Int)=2)=false from rfl,show decide ((6:Int)=3)=false from rfl,show decide ((6:Int)=4)=false from rfl,show decide ((6:Int)=5)=false from rfl,show decide ((6:Int)=6)=true from rfl,decide_true,cond_true,cond_false]
   simp only [condS,eqC,eqFile,eqSet,eqSvc,noFile,noSet,noSvc,decide_true,Bool.true_and,Bool.and_true,Bool.and_assoc]
  ·rfl
  ·rfl
  ·rfl
  ·rfl
  ·rfl
  ·rfl
theorem eCh_zero {c:api_Change} (h:eCh c=0):isKind c=true∧eNeed c=0∧c=keptC c:=by
 unfold eCh at h
 cases hk:isKind c
 ·rw [hk] at h; simp at h
 ·rw [hk] at h
  simp only [Bool.not_true,cond_false] at h
  cases hq:decide (eNeed c=0) && !eqC c (keptC c)
  ·rw [hq,cond_false] at h
   rw [h] at hq
   simp only [decide_true,Bool.true_and,Bool.not_eq_false'] at hq
   refine ⟨rfl,h,eqC_eq ?_ hq⟩
   unfold keptC
   cases decide (c.Kind=1) <;> cases decide (c.Kind=2) <;> cases decide (c.Kind=3) <;> cases decide (c.Kind=4) <;> cases decide (c.Kind=5) <;> rfl
  ·rw [hq] at h; simp at h
theorem strLt_eq:∀ a b:Str,strLt a b=decide (a < b)
 | [],[]=>by simp [strLt,Op.bytesLess]
 | _::_,[]=>by simp [strLt,Op.bytesLess]
 | [],_::_=>by simp [strLt,Op.bytesLess]
 | a::x,b::y=>by
  have ih:=strLt_eq x y
  unfold strLt at *
  rw [Op.bytesLess,ih,Bool.eq_iff_iff]
  simp [List.cons_lt_cons_iff]
theorem slt_trans {a b c:Str} (h1:a < b) (h2:b < c):a < c:=List.lt_trans h1 h2
theorem slt_irr (a:Str):¬ a < a:=List.lt_irrefl a
theorem slt_tri (a b:Str):a < b ∨ a=b ∨ b < a:=by
 by_cases h1:a < b
 ·exact .inl h1
 ·by_cases h2:b < a
  ·exact .inr (.inr h2)
  ·exact .inr (.inl (List.le_antisymm (List.not_lt.1 h2) (List.not_lt.1 h1)))
theorem slt_asymm {a b:Str} (h1:a < b):¬ b < a:=fun h2=>slt_irr a (slt_trans h1 h2)
theorem slt_ne {a b:Str} (h1:a < b):a ≠ b:=fun e=>slt_irr b (e ▸ h1)
theorem cmpB_spec:∀ a b:Str,(cmpB a b < 0 ↔ a < b)∧(cmpB a b=0 ↔ a=b)
 | [],[]=>by simp [cmpB,Lib.compareBytes]
 | _::_,[]=>by simp [cmpB,Lib.compareBytes]
 | [],_::_=>by simp [cmpB,Lib.compareBytes]
 | a::x,b::y=>by
  have ih:=cmpB_spec x y
  unfold cmpB at *
  rw [Lib.compareBytes,List.cons_lt_cons_iff]
  by_cases h:a < b
  ·have:a ≠ b:=fun e=>by subst e; exact UInt8.lt_irrefl _ h
   simp [h,this]
  ·by_cases h2:b < a
   ·have:a ≠ b:=fun e=>by subst e; exact UInt8.lt_irrefl _ h2
    simp [h,h2,this]
   ·have:a=b:=UInt8.le_antisymm (UInt8.not_lt.1 h2) (UInt8.not_lt.1 h)
    subst this
    simpa [h] using ih
theorem cmpB_lt (a b:Str):decide (cmpB a b < 0)=decide (a < b):=decide_eq_decide.2 (cmpB_spec a b).1
theorem slt_app (a b:Str) (hb:b ≠ []):a < a++b:=by
 induction a with
 | nil=>cases b with
  | nil=>exact absurd rfl hb
  | cons x b=>simp
 | cons x a ih=>rw [List.cons_append,List.cons_lt_cons_iff]; exact .inr ⟨rfl,ih⟩
section
variable {K V:Type} [DecidableEq K]
theorem alook_ne {m:List (K × V)} {p:K × V} {k:K} (h:¬ p.1=k):alook (p::m) k=alook m k:=by rw [alook,decide_eq_false h]; rfl
theorem alook_eq {m:List (K × V)} {p:K × V} {k:K} (h:p.1=k):alook (p::m) k=some p.2:=by rw [alook,decide_eq_true h]; rfl
theorem aset_ne {m:List (K × V)} {p:K × V} {k:K} {v:V} (h:¬ p.1=k):aset (p::m) k v=p::aset m k v:=by rw [aset,decide_eq_false h]; rfl
theorem aset_eq {m:List (K × V)} {p:K × V} {k:K} {v:V} (h:p.1=k):aset (p::m) k v=(k,v)::m:=by rw [aset,decide_eq_true h]; rfl
theorem alook_aset:∀ (m:List (K × V)) (k:K) (v:V) (k':K),alook (aset m k v) k'=if k=k' then some v else alook m k'
 | [],k,v,k'=>by
  simp only [aset,alook]
  by_cases h:k=k' <;> simp [h]
 | p::m,k,v,k'=>by
  unfold aset
  by_cases h:p.1=k
  ·rw [decide_eq_true h,cond_true]
   simp only [alook]
   by_cases h':k=k'
   ·simp [h']
   ·have:¬ p.1=k':=fun e=>h' (h ▸ e)
    simp [h',this]
  ·rw [decide_eq_false h,cond_false]
   simp only [alook]
   rw [alook_aset m k v k']
   by_cases h':k=k'
   ·have:¬ p.1=k':=fun e=>h (e.trans h'.symm)
    simp [h',this]
   ·simp only [if_neg h']
theorem alook_none:∀ {m:List (K × V)} {k:K},alook m k=none ↔ k ∉ m.map (·.1)
 | [],k=>by simp [alook]
 | p::m,k=>by
  simp only [alook,List.map_cons,List.mem_cons]
  by_cases h:p.1=k
  ·simp [h]
  ·rw [decide_eq_false h,cond_false,alook_none]
   simp [Ne.symm h]
theorem mem_keys {m:List (K × V)} {k:K}:k ∈ m.map (·.1) ↔ (alook m k).isSome=true:=by
 have:=@alook_none K V _ m k
 cases h:alook m k with
 | none=>simpa using this.1 h
 | some v =>
  simp only [Option.isSome_some,iff_true]
  refine Classical.byContradiction fun hc=>?_
  rw [this.2 hc] at h; cases h
theorem alook_mem:∀ {m:List (K × V)} {k:K} {v:V},alook m k=some v→(k,v) ∈ m
 | [],k,v,h=>by cases h
 | p::m,k,v,h=>by
  simp only [alook] at h
  by_cases e:p.1=k
  ·rw [decide_eq_true e,cond_true] at h
   cases h; subst e; exact List.mem_cons_self ..
  ·rw [decide_eq_false e,cond_false] at h
   exact List.mem_cons_of_mem _ (alook_mem h)
theorem mem_alook:∀ {m:List (K × V)},(m.map (·.1)).Nodup→∀ {p:K × V},p ∈ m→alook m p.1=some p.2
 | q::m,hn,p,hp=>by
  have hn':=List.nodup_cons.1 hn
  simp only [alook]
  rcases List.mem_cons.1 hp with rfl | hp
  ·simp
  ·have:¬ q.1=p.1:=fun e=>hn'.1 (by show q.1 ∈ _; rw [e]; exact List.mem_map_of_mem hp)
   rw [decide_eq_false this,cond_false]
   exact mem_alook hn'.2 hp
theorem keys_aset:∀ (m:List (K × V)) (k:K) (v:V),(aset m k v).map (·.1)=m.map (·.1)++if (alook m k).isSome then [] else [k]
 | [],k,v=>by simp [aset,alook]
 | p::m,k,v=>by
  by_cases h:p.1=k
  ·rw [aset_eq h,alook_eq h]; simp [h]
  ·rw [aset_ne h,alook_ne h,List.map_cons,keys_aset m k v]; rfl
theorem nodup_aset {m:List (K × V)} (h:(m.map (·.1)).Nodup) (k:K) (v:V):((aset m k v).map (·.1)).Nodup:=by
 rw [keys_aset]
 split
 ·simpa using h
 ·rename_i hs
  have:k ∉ m.map (·.1):=fun hk=>hs (mem_keys.1 hk)
  rw [List.nodup_append]
  exact ⟨h,by simp,fun a ha b hb e=>by simp at hb; subst hb; subst e; exact this ha⟩
theorem len_aset (m:List (K × V)) (k:K) (v:V):(aset m k v).length=m.length+if (alook m k).isSome then 0 else 1:=by
 have:=congrArg List.length (keys_aset m k v)
 simp only [List.length_map,List.length_append] at this
 rw [this]
 split <;> simp
theorem adel_keys:∀ (m:List (K × V)) (k:K),((adel m k).map (·.1)).Sublist (m.map (·.1))
 | [],k=>by simp [adel]
 | p::m,k=>by
  simp only [adel]
  by_cases h:p.1=k
  ·simp [h]
  ·rw [decide_eq_false h,cond_false]
   exact (adel_keys m k).cons_cons _
theorem nodup_adel {m:List (K × V)} (h:(m.map (·.1)).Nodup) (k:K):((adel m k).map (·.1)).Nodup:=h.sublist (adel_keys m k)
theorem alook_adel:∀ {m:List (K × V)},(m.map (·.1)).Nodup→∀ (k k':K),alook (adel m k) k'=if k=k' then none else alook m k'
 | [],_,k,k'=>by simp [adel,alook]
 | p::m,hn,k,k'=>by
  have hn':=List.nodup_cons.1 hn
  simp only [adel]
  by_cases h:p.1=k
  ·rw [decide_eq_true h,cond_true]
   by_cases h':k=k'
   ·rw [if_pos h',alook_none.2]
    rw [← h',← h]; exact hn'.1
   ·rw [if_neg h']
    have:¬ p.1=k':=fun e=>h' (h ▸ e)
    simp only [alook]
    rw [decide_eq_false this,cond_false]
  ·rw [decide_eq_false h,cond_false]
   simp only [alook]
   rw [alook_adel hn'.2]
   by_cases h':k=k'
   ·have:¬ p.1=k':=fun e=>h (e.trans h'.symm)
    simp [h',this]
   ·simp only [if_neg h']
end
section
variable {α S β:Type}
theorem forM_run {f:α→S→(S→Option β)→(S→Option β)→Option β} {k:S→Option β} {z:β} (inv:List α→S→Prop)
  (h0:∀ s,inv [] s→k s=some z) (h1:∀ r s nx x j,inv r s→r[j]?=some x→(∀ s',inv (r.eraseIdx j) s'→nx s'=some z)→f x s nx k=some z) :
  ∀ (n:Nat) (r:List α) (s:S),r.length=n→inv r s→forM f n r s k=some z
 | 0,[],s,_,h=>h0 s h
 | n+1,r,s,hn,h=>by
  unfold Go.Vc.forM
  refine anyOf_intro ⟨0,by omega⟩ fun j hj=>?_
  rw [List.getElem?_eq_getElem hj]
  exact h1 r s _ r[j] j h (List.getElem?_eq_getElem hj) fun s' hs=>forM_run inv h0 h1 n (r.eraseIdx j) s' (by rw [List.length_eraseIdx,if_pos hj]; omega) hs
theorem perm_eraseIdx:∀ {r:List α} {j:Nat} {x:α},r[j]?=some x→r.Perm (x::r.eraseIdx j)
 | [],_,_,h=>by cases h
 | y::r,0,x,h=>by
  simp at h; subst h; simp
 | y::r,j+1,x,h=>by
  simp only [List.getElem?_cons_succ] at h
  rw [List.eraseIdx_cons_succ]
  exact ((perm_eraseIdx h).cons y).trans (.swap x y _)
end
theorem sle_trans (a b c:Str) (h1:decide (a≤b)=true) (h2:decide (b≤c)=true):decide (a≤c)=true:=by
 simp only [decide_eq_true_eq] at *; exact List.le_trans h1 h2
theorem sle_total (a b:Str):(decide (a≤b) || decide (b≤a))=true:=by
 simp only [Bool.or_eq_true,decide_eq_true_eq]; exact List.le_total a b
theorem sortS_perm (l:List Str):(sortS l).Perm l:=List.mergeSort_perm l _
theorem sortS_of_perm {l l':List Str} (h:l.Perm l'):sortS l=sortS l':=by
 unfold sortS
 refine List.Perm.eq_of_pairwise (le:=fun a b=>decide (a≤b)=true) (fun a b _ _ h1 h2=>?_) (List.pairwise_mergeSort sle_trans sle_total l) (List.pairwise_mergeSort sle_trans sle_total l') (((List.mergeSort_perm l _).trans h).trans (List.mergeSort_perm l' _).symm)
 simp only [decide_eq_true_eq] at h1 h2
 exact List.le_antisymm h1 h2
theorem sortS_lt {l:List Str} (h:l.Nodup):(sortS l).Pairwise (· < ·):=by
 have h1:(sortS l).Pairwise fun a b=>decide (a≤b)=true:=List.pairwise_mergeSort sle_trans sle_total l
 have h2:(sortS l).Pairwise (· ≠ ·):=(sortS_perm l).symm.nodup h
 refine List.Pairwise.imp₂ (fun a b h3 h4=>?_) h1 h2
 simp only [decide_eq_true_eq] at h3
 rcases slt_tri a b with h | h | h
 ·exact h
 ·exact absurd h h4
 ·exact absurd h3 (List.not_le.2 h)
section
variable {V A:Type}
def keysM (m:List (Str × V)):List Str:=sortS (m.map (·.1))
theorem mem_keysM {m:List (Str × V)} {k:Str}:k ∈ keysM m ↔ (alook m k).isSome=true:=by
 unfold keysM
 rw [(sortS_perm _).mem_iff,mem_keys]
theorem len_keysM (m:List (Str × V)):(keysM m).length=m.length:=by
 unfold keysM
 rw [(sortS_perm _).length_eq,List.length_map]
theorem keysBody (m:List (Str × V)) (h:m.length≤274877906944) :
  forM (fun (e:Str × V) (o:List Str) nx _=>chk ((o++[e.1]).length≤274877906944) (nx (o++[e.1]))) m.length m [] (fun o=>some (sortS o))=some (keysM m):=by
 refine forM_run (fun r o=>(o++r.map (·.1)).Perm (m.map (·.1))) (fun o ho=>?_) (fun r o nx x j ho hx hnx=>?_) _ _ _ rfl (by simp)
 ·simp only [List.map_nil,List.append_nil] at ho
  unfold keysM
  rw [sortS_of_perm ho]
 ·have hp:=(perm_eraseIdx hx).map (·.1)
  have hq:((o++[x.1])++(r.eraseIdx j).map (·.1)).Perm (m.map (·.1)):=by
   refine List.Perm.trans ?_ ho
   rw [List.append_assoc]
   exact (List.Perm.append_left o hp).symm
  have hl:=hq.length_eq
  simp only [List.length_append,List.length_map] at hl
  rw [chk_true (by simp only [List.length_append]; omega)]
  exact hnx _ hq
def Srt (key:A→Str) (l:List A):Prop:=l.Pairwise fun a b=>key a < key b
def lk (key:A→Str) (l:List A) (k:Str):Option A:=l.find? fun x=>decide (key x=k)
variable {key:A→Str}
theorem lk_some {l:List A} {k:Str} {x:A} (h:lk key l k=some x):x ∈ l∧key x=k:=by
 unfold lk at h
 exact ⟨List.mem_of_find?_eq_some h,by simpa using List.find?_some h⟩
theorem srt_inj {l:List A} (hs:Srt key l) {x y:A} (hx:x ∈ l) (hy:y ∈ l) (h:key x=key y):x=y:=by
 induction l with
 | nil=>cases hx
 | cons z l ih =>
  have hs':=List.pairwise_cons.1 hs
  rcases List.mem_cons.1 hx with e | hx' <;> rcases List.mem_cons.1 hy with e' | hy'
  ·rw [e,e']
  ·subst e; exact absurd h (slt_ne (hs'.1 y hy'))
  ·subst e'; exact absurd h.symm (slt_ne (hs'.1 x hx'))
  ·exact ih hs'.2 hx' hy'
theorem lk_mem {l:List A} (hs:Srt key l) {x:A} (hx:x ∈ l):lk key l (key x)=some x:=by
 cases h:lk key l (key x) with
 | none =>
  unfold lk at h
  have:=List.find?_eq_none.1 h x hx
  simp at this
 | some y =>
  obtain ⟨h1,h2⟩:=lk_some h
  rw [srt_inj hs h1 hx h2]
theorem lk_none {l:List A} {k:Str}:lk key l k=none ↔ ∀ x ∈ l,key x ≠ k:=by
 unfold lk
 simp
theorem srt_nodup {l:List A} (hs:Srt key l):l.Nodup:=List.Pairwise.imp (R:=fun a b=>key a < key b) (S:=fun a b=>a ≠ b) (fun h e=>by subst e; exact slt_irr _ h) hs
theorem srt_ext {l l':List A} (h:Srt key l) (h':Srt key l') (he:∀ k,lk key l k=lk key l' k):l=l':=by
 have hm:∀ x,x ∈ l ↔ x ∈ l':=fun x=>⟨fun hx=>(lk_some ((he _).symm.trans (lk_mem h hx))).1,fun hx=>(lk_some ((he _).trans (lk_mem h' hx))).1⟩
 exact List.Perm.eq_of_pairwise (fun a b _ _ h1 h2=>absurd h2 (slt_asymm h1)) h h' ((List.perm_ext_iff_of_nodup (srt_nodup h) (srt_nodup h')).2 hm)
def toL (g:Str→V→A) (d:V) (m:List (Str × V)):List A:=(keysM m).map fun k=>g k ((alook m k).getD d)
theorem toL_len (g:Str→V→A) (d:V) (m:List (Str × V)):(toL g d m).length=m.length:=by
 unfold toL
 rw [List.length_map,len_keysM]
theorem toL_srt {g:Str→V→A} {d:V} {m:List (Str × V)} (hn:(m.map (·.1)).Nodup) (hk:∀ k v,alook m k=some v→key (g k v)=k):Srt key (toL g d m):=by
 unfold Srt toL
 rw [List.pairwise_map]
 refine (sortS_lt hn).imp_of_mem fun {a b} ha hb h=>?_
 have ha':=mem_keysM.1 (show a ∈ keysM m from ha)
 have hb':=mem_keysM.1 (show b ∈ keysM m from hb)
 obtain ⟨v,hv⟩:=Option.isSome_iff_exists.1 ha'
 obtain ⟨w,hw⟩:=Option.isSome_iff_exists.1 hb'
 rw [hv,hw,Option.getD_some,Option.getD_some,hk _ _ hv,hk _ _ hw]
 exact h
theorem toL_lk {g:Str→V→A} {d:V} {m:List (Str × V)} (hk:∀ k v,alook m k=some v→key (g k v)=k) (k:Str):lk key (toL g d m) k=(alook m k).map (g k):=by
 have h1:∀ k' ∈ keysM m,∃ v,alook m k'=some v∧key (g k' ((alook m k').getD d))=k':=fun k' h=>by
  obtain ⟨v,hv⟩:=Option.isSome_iff_exists.1 (mem_keysM.1 h)
  exact ⟨v,hv,by rw [hv,Option.getD_some,hk _ _ hv]⟩
 cases h:alook m k with
 | none =>
  rw [Option.map_none,lk_none]
  intro x hx
  obtain ⟨k',hk',rfl⟩:=List.mem_map.1 hx
  obtain ⟨v,hv,he⟩:=h1 k' hk'
  rw [he]
  rintro rfl
  rw [h] at hv; cases hv
 | some v =>
  have hm:k ∈ keysM m:=mem_keysM.2 (by rw [h]; rfl)
  cases hl:lk key (toL g d m) k with
  | none =>
   have:=lk_none.1 hl _ (List.mem_map_of_mem hm)
   obtain ⟨v',hv,he⟩:=h1 k hm
   exact absurd he this
  | some x =>
   obtain ⟨h2,h3⟩:=lk_some hl
   obtain ⟨k',hk',rfl⟩:=List.mem_map.1 h2
   obtain ⟨v',hv,he⟩:=h1 k' hk'
   rw [he] at h3
   subst h3
   rw [h]; rfl
def ins (key:A→Str) (x:A) (l:List A):List A:=l.filter (fun y=>decide (key y < key x))++x::l.filter fun y=>decide (key x < key y)
def del (key:A→Str) (k:Str) (l:List A):List A:=l.filter fun y=>!decide (key y=k)
theorem mem_ins {l:List A} {x y:A}:y ∈ ins key x l ↔ y=x ∨ (y ∈ l∧key y ≠ key x):=by
 unfold ins
 simp only [List.mem_append,List.mem_filter,decide_eq_true_eq,List.mem_cons]
 constructor
 ·rintro (⟨h1,h2⟩ | rfl | ⟨h1,h2⟩)
  ·exact .inr ⟨h1,slt_ne h2⟩
  ·exact .inl rfl
  ·exact .inr ⟨h1,Ne.symm (slt_ne h2)⟩
 ·rintro (rfl | ⟨h1,h2⟩)
  ·exact .inr (.inl rfl)
  ·rcases slt_tri (key y) (key x) with h | h | h
   ·exact .inl ⟨h1,h⟩
   ·exact absurd h h2
   ·exact .inr (.inr ⟨h1,h⟩)
theorem mem_del {l:List A} {k:Str} {y:A}:y ∈ del key k l ↔ y ∈ l∧key y ≠ k:=by
 unfold del
 simp
theorem srt_ins {l:List A} (hs:Srt key l) (x:A):Srt key (ins key x l):=by
 unfold Srt ins
 rw [List.pairwise_append,List.pairwise_cons]
 refine ⟨hs.filter _,⟨fun y hy=>by simpa using (List.mem_filter.1 hy).2,hs.filter _⟩,fun a ha b hb=>?_⟩
 have h1:key a < key x:=by simpa using (List.mem_filter.1 ha).2
 rcases List.mem_cons.1 hb with rfl | hb
 ·exact h1
 ·exact slt_trans h1 (by simpa using (List.mem_filter.1 hb).2)
theorem srt_del {l:List A} (hs:Srt key l) (k:Str):Srt key (del key k l):=hs.filter _
theorem lk_ext {l:List A} {k:Str} {o:Option A} (hs:Srt key l) (h:∀ x,o=some x ↔ x ∈ l∧key x=k):lk key l k=o:=by
 cases hl:lk key l k with
 | none =>
  cases ho:o with
  | none=>rfl
  | some x =>
   obtain ⟨h1,h2⟩:=(h x).1 ho
   exact absurd h2 (lk_none.1 hl x h1)
 | some x=>exact ((h x).2 (lk_some hl)).symm
theorem lk_iff {l:List A} (hs:Srt key l) {k:Str} {x:A}:lk key l k=some x ↔ x ∈ l∧key x=k:=⟨lk_some,fun h=>by obtain ⟨h1,rfl⟩:=h; exact lk_mem hs h1⟩
theorem lk_ins {l:List A} (hs:Srt key l) (x:A) (k:Str):lk key (ins key x l) k=if key x=k then some x else lk key l k:=by
 refine lk_ext (srt_ins hs x) fun y=>?_
 rw [mem_ins]
 split
 ·rename_i h
  subst h
  constructor
  ·intro h; cases h; exact ⟨.inl rfl,rfl⟩
  ·rintro ⟨rfl | ⟨h1,h2⟩,h3⟩
   ·rfl
   ·exact absurd h3 h2
 ·rename_i h
  rw [lk_iff hs]
  constructor
  ·rintro ⟨h1,rfl⟩; exact ⟨.inr ⟨h1,fun e=>h e.symm⟩,rfl⟩
  ·rintro ⟨rfl | ⟨h1,h2⟩,h3⟩
   ·exact absurd h3 h
   ·exact ⟨h1,h3⟩
theorem lk_del {l:List A} (hs:Srt key l) (k k':Str):lk key (del key k l) k'=if k=k' then none else lk key l k':=by
 refine lk_ext (srt_del hs k) fun y=>?_
 rw [mem_del]
 split
 ·rename_i h
  subst h
  simp only [reduceCtorEq,false_iff]
  rintro ⟨⟨_,h1⟩,h2⟩
  exact h1 h2
 ·rename_i h
  rw [lk_iff hs]
  constructor
  ·rintro ⟨h1,rfl⟩; exact ⟨⟨h1,fun e=>h e.symm⟩,rfl⟩
  ·rintro ⟨⟨h1,_⟩,h2⟩; exact ⟨h1,h2⟩
theorem len_del {l:List A} (hs:Srt key l) (k:Str):l.length=(del key k l).length+if (lk key l k).isSome then 1 else 0:=by
 induction l with
 | nil=>simp [del,lk]
 | cons x l ih =>
  have hs':=List.pairwise_cons.1 hs
  have ih:=ih hs'.2
  unfold del lk at *
  by_cases h:key x=k
  ·have h0:∀ y ∈ l,key y ≠ k:=fun y hy e=>slt_ne (hs'.1 y hy) (h.trans e.symm)
   have h1:l.find? (fun x=>decide (key x=k))=none:=by simpa using h0
   rw [h1] at ih
   simp only [List.filter_cons,List.find?_cons,h,decide_true,Bool.not_true,Bool.false_eq_true,if_false,if_true,Option.isSome_some,Option.isSome_none,List.length_cons] at *
   omega
  ·simp only [List.filter_cons,List.find?_cons,h,decide_false,Bool.not_false,if_true,List.length_cons] at *
   omega
theorem len_ins {l:List A} (hs:Srt key l) (x:A):(ins key x l).length=l.length+if (lk key l (key x)).isSome then 0 else 1:=by
 have h1:=len_del (srt_ins hs x) (key x)
 rw [lk_ins hs,if_pos rfl] at h1
 have h2:del key (key x) (ins key x l)=del key (key x) l:=by
  refine srt_ext (srt_del (srt_ins hs x) _) (srt_del hs _) fun k=>?_
  rw [lk_del (srt_ins hs x),lk_del hs,lk_ins hs]
  split
  ·rfl
  ·rfl
 rw [h2] at h1
 have h3:=len_del hs (key x)
 simp only [Option.isSome_some,if_true] at h1
 split at h3 <;> simp_all <;> omega
theorem toL_aset {g:Str→V→A} {d:V} {m:List (Str × V)} (hn:(m.map (·.1)).Nodup) (hk:∀ k v,alook m k=some v→key (g k v)=k) (k:Str) (v:V) (hv:key (g k v)=k) :
  toL g d (aset m k v)=ins key (g k v) (toL g d m):=by
 have hk':∀ k' v',alook (aset m k v) k'=some v'→key (g k' v')=k':=fun k' v' h=>by
  rw [alook_aset] at h
  split at h
  ·rename_i e; subst e; cases h; exact hv
  ·exact hk _ _ h
 refine srt_ext (toL_srt (nodup_aset hn k v) hk') (srt_ins (toL_srt hn hk) _) fun k'=>?_
 rw [toL_lk hk',lk_ins (toL_srt hn hk),toL_lk hk,alook_aset,hv]
 split
 ·rename_i e; subst e; rfl
 ·rfl
theorem toL_adel {g:Str→V→A} {d:V} {m:List (Str × V)} (hn:(m.map (·.1)).Nodup) (hk:∀ k v,alook m k=some v→key (g k v)=k) (k:Str) :
  toL g d (adel m k)=del key k (toL g d m):=by
 have hk':∀ k' v',alook (adel m k) k'=some v'→key (g k' v')=k':=fun k' v' h=>by
  rw [alook_adel hn] at h
  split at h
  ·cases h
  ·exact hk _ _ h
 refine srt_ext (toL_srt (nodup_adel hn k) hk') (srt_del (toL_srt hn hk) _) fun k'=>?_
 rw [toL_lk hk',lk_del (toL_srt hn hk),toL_lk hk,alook_adel hn]
 split <;> rfl
def ofL (key:A→Str) (w:A→V) (l:List A):List (Str × V):=l.map fun x=>(key x,w x)
theorem aset_app (m:List (Str × V)) (k:Str) (v:V) (h:k ∉ m.map (·.1)):aset m k v=m++[(k,v)]:=by
 induction m with
 | nil=>rfl
 | cons p m ih =>
  have h1:¬ p.1=k:=fun e=>h (by simp [e])
  rw [aset,decide_eq_false h1,cond_false,ih fun h'=>h (by simp at h' ⊢; exact .inr h')]
  rfl
theorem ofL_keys (w:A→V) (l:List A):(ofL key w l).map (·.1)=l.map key:=by simp [ofL,Function.comp_def]
theorem ofL_nodup {w:A→V} {l:List A} (hs:Srt key l):((ofL key w l).map (·.1)).Nodup:=by
 rw [ofL_keys]
 exact (List.pairwise_map.2 (hs.imp fun h=>slt_ne h))
theorem ofL_look {w:A→V} {l:List A} (k:Str):alook (ofL key w l) k=(lk key l k).map w:=by
 unfold ofL lk
 induction l with
 | nil=>rfl
 | cons x l ih =>
  simp only [List.map_cons,alook,List.find?_cons]
  by_cases h:key x=k
  ·simp [h]
  ·rw [decide_eq_false h,cond_false,ih]
theorem ofLoop {Z:Type} {w:A→V} {f:Nat→A→List (Str × V)→(List (Str × V)→Option Z)→(List (Str × V)→Option Z)→Option Z} {k:List (Str × V)→Option Z}
  (hf:∀ i x m nx k,f i x m nx k=chk ((aset m (key x) (w x)).length≤274877906944) (nx (aset m (key x) (w x)))) {l:List A} (hs:Srt key l) (hl:l.length≤274877906944) :
  forL l 0 f [] k=k (ofL key w l):=by
 have:∀ (a b:List A) (i:Nat),l=a++b→forL b i f (ofL key w a) k=k (ofL key w l):=by
  intro a b
  induction b generalizing a with
  | nil=>intro i e; rw [List.append_nil] at e; subst e; rfl
  | cons x b ih =>
   intro i e
   unfold forL
   have hx:key x ∉ (ofL key w a).map (·.1):=by
    rw [ofL_keys]
    intro h
    obtain ⟨y,hy,hyx⟩:=List.mem_map.1 h
    have h1:=hs
    unfold Srt at h1
    rw [e,List.pairwise_append] at h1
    exact slt_ne (h1.2.2 y hy x (List.mem_cons_self ..)) hyx
   have hap:aset (ofL key w a) (key x) (w x)=ofL key w (a++[x]):=by
    rw [aset_app _ _ _ hx]; simp [ofL]
   rw [hf,hap,chk_true]
   ·exact ih (a++[x]) (i+1) (by rw [e]; simp)
   ·have:=congrArg List.length e
    simp only [List.length_append,List.length_cons] at this
    simp only [ofL,List.length_map,List.length_append,List.length_cons,List.length_nil]
    omega
 exact this [] l 0 rfl
theorem toL_ofL {w:A→V} {g:Str→V→A} {d:V} {l:List A} (hs:Srt key l) (hg:∀ x ∈ l,g (key x) (w x)=x):toL g d (ofL key w l)=l:=by
 have hk:∀ k v,alook (ofL key w l) k=some v→key (g k v)=k:=fun k v h=>by
  rw [ofL_look] at h
  obtain ⟨x,hx,rfl⟩:=Option.map_eq_some_iff.1 h
  obtain ⟨h1,rfl⟩:=lk_some hx
  rw [hg x h1]
 refine srt_ext (toL_srt (ofL_nodup hs) hk) hs fun k=>?_
 rw [toL_lk hk,ofL_look]
 cases h:lk key l k with
 | none=>rfl
 | some x =>
  obtain ⟨h1,rfl⟩:=lk_some h
  simp [hg x h1]
theorem collectLoop {Z:Type} {g:Str→V→A} {d:V} {m:List (Str × V)} {f:Nat→Str→List A→(List A→Option Z)→(List A→Option Z)→Option Z} {k:List A→Option Z}
  (hf:∀ i x o nx k,f i x o nx k=chk ((o++[g x ((alook m x).getD d)]).length≤274877906944) (nx (o++[g x ((alook m x).getD d)]))) (hl:m.length≤274877906944) :
  forL (keysM m) 0 f [] k=k (toL g d m):=by
 have hk:=len_keysM m
 have:∀ (a b:List Str) (i:Nat),keysM m=a++b→forL b i f (a.map fun x=>g x ((alook m x).getD d)) k=k (toL g d m):=by
  intro a b
  induction b generalizing a with
  | nil=>intro i e; rw [List.append_nil] at e; unfold toL; rw [e]; rfl
  | cons x b ih =>
   intro i e
   have h0:=congrArg List.length e
   simp only [List.length_append,List.length_cons] at h0
   unfold forL
   rw [hf,chk_true (by simp only [List.length_append,List.length_map,List.length_cons,List.length_nil]; omega)]
   have:=ih (a++[x]) (i+1) (by rw [e]; simp)
   rw [List.map_append] at this
   exact this
 exact this [] _ 0 rfl
end
def undB (p d:Str):Bool:=decide (p.take (d.length+1)=d++[47])
theorem undB_app {p d:Str} (h:undB p d=true):∃ r,p=d++47::r:=by
 have:=of_decide_eq_true h
 refine ⟨p.drop (d.length+1),?_⟩
 conv=>lhs; rw [← List.take_append_drop (d.length+1) p,this]
 simp
theorem undB_of (d r:Str):undB (d++47::r) d=true:=by
 unfold undB
 rw [decide_eq_true_eq,show d.length+1=(d++[47]).length by simp,show d++47::r=(d++[47])++r by simp,List.take_left]
theorem undB_lt {p d:Str} (h:undB p d=true):d < p:=by
 obtain ⟨r,rfl⟩:=undB_app h
 exact slt_app _ _ (by simp)
theorem undB_at {p d:Str}:undB p d=true ↔ ∃ i,∃ h:i < p.length,p[i]=47∧d=p.take i:=by
 constructor
 ·intro h
  obtain ⟨r,rfl⟩:=undB_app h
  exact ⟨d.length,by simp,by simp,by simp⟩
 ·rintro ⟨i,h,h1,rfl⟩
  have:p=p.take i++47::p.drop (i+1):=by
   rw [← h1,← List.drop_eq_getElem_cons h,List.take_append_drop]
  conv=>lhs; arg 1; rw [this]
  exact undB_of _ _
theorem under_eq (p d:Str) (h:d.length < 274877906944):R_under p d=some (undB p d):=by
 unfold R_under strings_HasPrefix internal_stringslite_HasPrefix undB
 have hl:(d++[47]).length=d.length+1:=by simp
 rw [chk_true (by rw [hl]; omega),chk_true (by intro h; simp only [decide_eq_true_eq] at h; omega)]
 simp only [call_some,hl]
 congr 1
 by_cases hp:d.length+1≤p.length
 ·rw [decide_eq_true (by omega:((d.length+1:Nat):Int)≤(p.length:Int)),Bool.true_and]
 ·rw [decide_eq_false (by omega),Bool.false_and,eq_comm,decide_eq_false_iff_not]
  intro e
  have:=congrArg List.length e
  simp only [List.length_take,hl] at this
  omega
theorem allI_iff {α:Type} {q:Nat→α→Bool}:∀ (l:List α) (i:Nat),allI q i l=true ↔ ∀ j (h:j < l.length),q (i+j) l[j]=true
 | [],i=>by simp [allI]
 | x::l,i=>by
  unfold allI
  rw [Bool.and_eq_true,allI_iff l (i+1)]
  constructor
  ·rintro ⟨h1,h2⟩ j hj
   cases j with
   | zero=>exact h1
   | succ j=>have:=h2 j (by simpa using hj); rw [show i+(j+1)=i+1+j by omega]; exact this
  ·intro h
   refine ⟨h 0 (by simp),fun j hj=>?_⟩
   have:=h (j+1) (by simpa using hj)
   rw [show i+1+j=i+(j+1) by omega]; exact this
theorem abv_iff (m:Mp) (p:Str):abv m p=true ↔ ∀ d,undB p d=true→(alook m d).getD false=false:=by
 unfold abv
 rw [allI_iff]
 constructor
 ·intro h d hd
  obtain ⟨i,hi,h1,rfl⟩:=undB_at.1 hd
  have:=h i hi
  unfold abvQ at this
  rw [Nat.zero_add,h1] at this
  simpa using this
 ·intro h j hj
  unfold abvQ
  rw [Nat.zero_add]
  cases hc:decide ((p[j].toNat:Int)=47) with
  | false=>rfl
  | true =>
   have h1:p[j]=47:=by
    have h2:p[j].toNat=47:=by simp only [decide_eq_true_eq] at hc; omega
    exact UInt8.toNat.inj h2
   rw [h _ (undB_at.2 ⟨j,hj,h1,rfl⟩)]; rfl
theorem ord_eq (i:Nat) (a b:Str):ord i a b=(decide (0 < i) && !decide (b < a)):=by
 unfold ord strLe
 rw [strLt_eq]
 congr 1
 ·exact decide_eq_decide.2 (by omega)
 ·rw [Bool.eq_iff_iff]
  simp only [Bool.or_eq_true,decide_eq_true_eq,Bool.not_eq_true',decide_eq_false_iff_not]
  constructor
  ·rintro (h | rfl)
   ·exact slt_asymm h
   ·exact slt_irr _
  ·intro h
   rcases slt_tri a b with h1 | h1 | h1
   ·exact .inl h1
   ·exact .inr h1
   ·exact absurd h1 h
section
variable {α:Type} {nm:α→Str}
def Hd (nm:α→Str) (i:Nat) (last:Str):List α→Prop
 | []=>True
 | x::_=>0 < i→last < nm x
theorem srt_cons {x:α} {l:List α} {i:Nat}:Srt nm (x::l) ↔ Hd nm (i+1) (nm x) l∧Srt nm l:=by
 unfold Srt
 rw [List.pairwise_cons]
 cases l with
 | nil=>simp [Hd]
 | cons y l =>
  simp only [Hd]
  constructor
  ·rintro ⟨h1,h2⟩; exact ⟨fun _=>h1 y (List.mem_cons_self ..),h2⟩
  ·rintro ⟨h1,h2⟩
   refine ⟨fun z hz=>?_,h2⟩
   rcases List.mem_cons.1 hz with rfl | hz
   ·exact h1 (by omega)
   ·exact slt_trans (h1 (by omega)) ((List.pairwise_cons.1 h2).1 z hz)
theorem ord_false {i:Nat} {x:α} {l:List α} {last:Str}:ord i (nm x) last=false ↔ Hd nm i last (x::l):=by
 rw [ord_eq]
 simp only [Hd,Bool.and_eq_false_iff,decide_eq_false_iff_not,Bool.not_eq_false',decide_eq_true_eq]
 constructor
 ·rintro (h | h)
  ·intro h'; exact absurd h' h
  ·exact fun _=>h
 ·intro h
  by_cases hi:0 < i
  ·exact .inr (h hi)
  ·exact .inl hi
theorem firstE_iff {e:α→Int}:∀ (l:List α) (i:Nat) (last:Str),firstE e nm i last l=0 ↔ (∀ x ∈ l,e x=0)∧Srt nm l∧Hd nm i last l
 | [],i,last=>by simp [firstE,Srt,Hd]
 | x::l,i,last=>by
  unfold firstE
  by_cases h:e x=0
  ·rw [decide_eq_true h,Bool.not_true,cond_false]
   cases ho:ord i (nm x) last with
   | true =>
    have:¬ Hd nm i last (x::l):=fun hh=>by rw [ord_false.2 hh] at ho; cases ho
    simp [this]
   | false =>
    have hh:=(ord_false (l:=l)).1 ho
    rw [cond_false,firstE_iff l,srt_cons (i:=i)]
    simp only [List.mem_cons,forall_eq_or_imp,h,true_and,hh,and_true]
    constructor
    ·rintro ⟨h1,h2,h3⟩; exact ⟨h1,h3,h2⟩
    ·rintro ⟨h1,h3,h2⟩; exact ⟨h1,h2,h3⟩
  ·rw [decide_eq_false h,Bool.not_false,cond_true]
   simp [h]
end
theorem filesE_iff:∀ (l:List api_File) (i:Nat) (last:Str) (m:Mp),filesE i last m l=0 ↔
  (∀ x ∈ l,eFile x=0)∧Srt (·.Path) l∧Hd (·.Path) i last l∧(∀ x ∈ l,∀ d,undB x.Path d=true→(alook m d).getD false=false)∧l.Pairwise fun y x=>undB x.Path y.Path=false
 | [],i,last,m=>by simp [filesE,Srt,Hd]
 | x::l,i,last,m=>by
  unfold filesE
  by_cases h:eFile x=0
  ·rw [decide_eq_true h,Bool.not_true,cond_false]
   cases ho:ord i x.Path last with
   | true =>
    have:¬ Hd (·.Path) i last (x::l):=fun hh=>by rw [(ord_false (nm:=fun x:api_File=>x.Path)).2 hh] at ho; cases ho
    simp [this]
   | false =>
    have hh:=(ord_false (nm:=fun x:api_File=>x.Path) (l:=l)).1 ho
    rw [cond_false]
    cases ha:abv m x.Path with
    | false =>
     have:¬ ∀ d,undB x.Path d=true→(alook m d).getD false=false:=fun hh=>by rw [(abv_iff m x.Path).2 hh] at ha; cases ha
     rw [Bool.not_false,cond_true]
     simp [this]
    | true =>
     have ha':=(abv_iff m x.Path).1 ha
     rw [Bool.not_true,cond_false,filesE_iff l,srt_cons (i:=i),List.pairwise_cons]
     simp only [List.mem_cons,forall_eq_or_imp,h,true_and,hh]
     constructor
     ·rintro ⟨h1,h2,h3,h4,h5⟩
      refine ⟨h1,⟨h3,h2⟩,⟨ha',fun y hy d hd=>?_⟩,fun y hy=>?_,h5⟩
      ·have:=h4 y hy d hd
       rw [alook_aset] at this
       split at this
       ·cases this
       ·exact this
      ·cases hu:undB y.Path x.Path with
       | false=>rfl
       | true =>
        have:=h4 y hy _ hu
        rw [alook_aset,if_pos rfl] at this
        cases this
     ·rintro ⟨h1,⟨h3,h2⟩,⟨_,h4⟩,h6,h5⟩
      refine ⟨h1,h2,h3,fun y hy d hd=>?_,h5⟩
      rw [alook_aset]
      split
      ·rename_i e
       subst e
       rw [h6 y hy] at hd; cases hd
      ·exact h4 y hy d hd
  ·rw [decide_eq_false h,Bool.not_false,cond_true]
   simp [h]
structure Good (m:api_Machine):Prop where
 c1:m.Facts.length≤100
 c2:m.Files.length≤2000
 c3:m.Settings.length≤2000
 c4:m.Services.length≤100
 f1:∀ x ∈ m.Facts,eFact x=0
 f2:Srt (·.Key) m.Facts
 g1:∀ x ∈ m.Files,eFile x=0
 g2:Srt (·.Path) m.Files
 g3:∀ x ∈ m.Files,∀ y ∈ m.Files,undB x.Path y.Path=false
 s1:∀ x ∈ m.Settings,eSet x=0
 s2:Srt (·.Key) m.Settings
 v1:∀ x ∈ m.Services,eSvc x=0
 v2:Srt (·.Name) m.Services
theorem hd0 {α:Type} {nm:α→Str} {l:List α} {last:Str}:Hd nm 0 last l:=by
 cases l with
 | nil=>trivial
 | cons x l=>intro h; omega
theorem or2_zero (a b:Int):or2 a b=0 ↔ a=0∧b=0:=by
 unfold or2
 by_cases h:a=0
 ·simp [h]
 ·rw [decide_eq_false h,Bool.not_false,cond_true]
  simp [h]
theorem pw_und {l:List api_File} (hs:Srt (·.Path) l):(l.Pairwise fun y x=>undB x.Path y.Path=false) ↔ ∀ x ∈ l,∀ y ∈ l,undB x.Path y.Path=false:=by
 constructor
 ·intro h
  induction l with
  | nil=>intro x hx; cases hx
  | cons z l ih =>
   have hs':=List.pairwise_cons.1 hs
   have h':=List.pairwise_cons.1 h
   have irr:∀ p:Str,undB p p=false:=fun p=>by
    cases hu:undB p p with
    | false=>rfl
    | true=>exact absurd (undB_lt hu) (slt_irr _)
   have asy:∀ a b:Str,a < b→undB a b=false:=fun a b hab=>by
    cases hu:undB a b with
    | false=>rfl
    | true=>exact absurd (undB_lt hu) (slt_asymm hab)
   intro x hx y hy
   rcases List.mem_cons.1 hx with e | hx' <;> rcases List.mem_cons.1 hy with e' | hy'
   ·rw [e,e']; exact irr _
   ·subst e; exact asy _ _ (hs'.1 y hy')
   ·subst e'; exact h'.1 x hx'
   ·exact ih hs'.2 h'.2 x hx' y hy'
 ·intro h
  exact List.pairwise_iff_forall_sublist.2 fun {a b} hab=>h b (hab.subset (by simp)) a (hab.subset (by simp))
theorem good_iff (m:api_Machine):checkE m=0 ↔ Good m:=by
 unfold checkE
 cases hB:(((decide (100 < (m.Facts.length:Int))) || (decide (2000 < (m.Files.length:Int)))) || (decide (2000 < (m.Settings.length:Int)))) || (decide (100 < (m.Services.length:Int))) with
 | true =>
  simp only [cond_true]
  simp only [Bool.or_eq_true,decide_eq_true_eq] at hB
  constructor
  ·intro h; cases h
  ·intro h
   have:=h.c1
   have:=h.c2
   have:=h.c3
   have:=h.c4
   omega
 | false =>
  simp only [Bool.or_eq_false_iff,decide_eq_false_iff_not] at hB
  simp only [cond_false,or2_zero,firstE_iff,filesE_iff]
  constructor
  ·rintro ⟨⟨a1,a2,_⟩,⟨b1,b2,_,_,b3⟩,⟨d1,d2,_⟩,e1,e2,_⟩
   exact ⟨by omega,by omega,by omega,by omega,a1,a2,b1,b2,(pw_und b2).1 b3,d1,d2,e1,e2⟩
  ·intro h
   exact ⟨⟨h.f1,h.f2,hd0⟩,⟨h.g1,h.g2,hd0,fun _ _ _ _=>rfl,(pw_und h.g2).2 h.g3⟩,⟨h.s1,h.s2,hd0⟩,h.v1,h.v2,hd0⟩
theorem pathOk_len {p:Str} (h:pathOk p=true):p.length≤200:=by
 unfold pathOk at h
 simp only [Bool.and_eq_true,decide_eq_true_eq] at h
 omega
theorem eFile_path {f:api_File} (h:eFile f=0):pathOk f.Path=true∧f.Data.length≤65536:=by
 unfold eFile at h
 cases hp:pathOk f.Path <;> rw [hp] at h
 ·cases h
 ·simp only [Bool.not_true,cond_false] at h
  by_cases hd:65536 < (f.Data.length:Int)
  ·rw [decide_eq_true hd] at h; cases h
  ·exact ⟨rfl,by omega⟩
theorem eSet_key {s:api_Setting} (h:eSet s=0):pathOk s.Key=true∧valueOk s.Value=true:=by
 unfold eSet at h
 cases hp:pathOk s.Key <;> cases hv:valueOk s.Value <;> rw [hp,hv] at h <;> first | cases h; done | exact ⟨rfl,rfl⟩
theorem eSvc_name {s:api_Service} (h:eSvc s=0):nameOk s.Name=true∧pathOk s.Path=true:=by
 unfold eSvc at h
 cases hp:nameOk s.Name <;> cases hv:pathOk s.Path <;> rw [hp,hv] at h <;> first | cases h; done | exact ⟨rfl,rfl⟩
theorem Good.fit {m:api_Machine} (h:Good m):Fit m:=by
 have:=h.c1
 have:=h.c2
 have:=h.c3
 have:=h.c4
 refine ⟨by omega,by omega,by omega,by omega,fun x hx=>?_,fun x hx=>?_,fun x hx=>?_⟩
 ·have:=pathOk_len (eFile_path (h.g1 x hx)).1
  unfold Sm; omega
 ·have:=pathOk_len (eSet_key (h.s1 x hx)).1
  unfold Sm; omega
 ·have:=pathOk_len (eSvc_name (h.v1 x hx)).2
  unfold Sm; omega
def noMach:api_Machine:=⟨[],[],[],[]⟩
abbrev lkF (l:List api_File) (k:Str):=lk (fun x:api_File=>x.Path) l k
abbrev lkS (l:List api_Setting) (k:Str):=lk (fun x:api_Setting=>x.Key) l k
abbrev lkV (l:List api_Service) (k:Str):=lk (fun x:api_Service=>x.Name) l k
def clash (p:Str) (f:api_File):Bool:=undB f.Path p || undB p f.Path
def stepM (c:api_Change) (M:api_Machine):Int × api_Machine :=
 bif !decide (eCh c=0) then (eCh c,M) else
 bif decide (c.Kind=2) then (bif !(lkF M.Files c.File.Path).isSome then (10,M) else (0,⟨M.Facts,del (·.Path) c.File.Path M.Files,M.Settings,M.Services⟩)) else
 bif decide (c.Kind=4) then (bif !(lkS M.Settings c.Setting.Key).isSome then (10,M) else (0,⟨M.Facts,M.Files,del (·.Key) c.Setting.Key M.Settings,M.Services⟩)) else
 bif decide (c.Kind=6) then (bif !(lkV M.Services c.Service.Name).isSome then (10,M) else (0,⟨M.Facts,M.Files,M.Settings,del (·.Name) c.Service.Name M.Services⟩)) else
 bif decide (c.Kind=1) then (bif M.Files.any (clash c.File.Path) then (11,M) else bif !(lkF M.Files c.File.Path).isSome && decide (2000≤(M.Files.length:Int)) then (4,M) else (0,⟨M.Facts,ins (·.Path) c.File M.Files,M.Settings,M.Services⟩)) else
 bif decide (c.Kind=3) then (bif !(lkS M.Settings c.Setting.Key).isSome && decide (2000≤(M.Settings.length:Int)) then (4,M) else (0,⟨M.Facts,M.Files,ins (·.Key) c.Setting M.Settings,M.Services⟩)) else
 (bif !(lkV M.Services c.Service.Name).isSome && decide (100≤(M.Services.length:Int)) then (4,M) else (0,⟨M.Facts,M.Files,M.Settings,ins (·.Name) c.Service M.Services⟩))
def stepsM:List api_Change→api_Machine→api_Machine × Int
 | [],M=>(M,0)
 | c::l,M=>bif !decide ((stepM c M).1=0) then (noMach,(stepM c M).1) else stepsM l (stepM c M).2
def applyM (M:api_Machine) (l:List api_Change):api_Machine × Int:=bif !decide (checkE M=0) then (noMach,checkE M) else stepsM l M
theorem kindEqs:(decide ((1:Int)=1)=true∧decide ((1:Int)=2)=false∧decide ((1:Int)=3)=false∧decide ((1:Int)=4)=false∧decide ((1:Int)=5)=false∧decide ((1:Int)=6)=false) ∧
  (decide ((2:Int)=1)=false∧decide ((2:Int)=2)=true∧decide ((2:Int)=3)=false∧decide ((2:Int)=4)=false∧decide ((2:Int)=5)=false∧decide ((2:Int)=6)=false) ∧
  (decide ((3:Int)=1)=false∧decide ((3:Int)=2)=false∧decide ((3:Int)=3)=true∧decide ((3:Int)=4)=false∧decide ((3:Int)=5)=false∧decide ((3:Int)=6)=false) ∧
  (decide ((4:Int)=1)=false∧decide ((4:Int)=2)=false∧decide ((4:Int)=3)=false∧decide ((4:Int)=4)=true∧decide ((4:Int)=5)=false∧decide ((4:Int)=6)=false) ∧
  (decide ((5:Int)=1)=false∧decide ((5:Int)=2)=false∧decide ((5:Int)=3)=false∧decide ((5:Int)=4)=false∧decide ((5:Int)=5)=true∧decide ((5:Int)=6)=false) ∧
  (decide ((6:Int)=1)=false∧decide ((6:Int)=2)=false∧decide ((6:Int)=3)=false∧decide ((6:Int)=4)=false∧decide ((6:Int)=5)=false∧decide ((6:Int)=6)=true):=by decide
theorem eCh_kind {c:api_Change} (h:eCh c=0):c.Kind=1 ∨ c.Kind=2 ∨ c.Kind=3 ∨ c.Kind=4 ∨ c.Kind=5 ∨ c.Kind=6:=kinds6 (eCh_zero h).1
theorem eCh_put {c:api_Change} (h:eCh c=0) (hk:c.Kind=1):eFile c.File=0:=by
 have:=(eCh_zero h).2.1
 unfold eNeed at this
 rw [hk] at this
 exact this
theorem eCh_set {c:api_Change} (h:eCh c=0) (hk:c.Kind=3):eSet c.Setting=0:=by
 have:=(eCh_zero h).2.1
 unfold eNeed at this
 rw [hk] at this
 exact this
theorem eCh_svc {c:api_Change} (h:eCh c=0) (hk:c.Kind=5):eSvc c.Service=0:=by
 have:=(eCh_zero h).2.1
 unfold eNeed at this
 rw [hk] at this
 exact this
theorem clash_irr (p:Str):undB p p=false:=by
 cases hu:undB p p with
 | false=>rfl
 | true=>exact absurd (undB_lt hu) (slt_irr _)
theorem good_step {M:api_Machine} (h:Good M) (c:api_Change):Good (stepM c M).2:=by
 unfold stepM
 by_cases he:eCh c=0
 ·rw [decide_eq_true he,Bool.not_true,cond_false]
  have hc1:=h.c1
  have hc2:=h.c2
  have hc3:=h.c3
  have hc4:=h.c4
  rcases eCh_kind he with e | e | e | e | e | e
  all_goals simp only [e,kindEqs,decide_true,cond_true,cond_false]
  ·cases ha:M.Files.any (clash c.File.Path)
   ·simp only [cond_false]
    cases hb:!(lkF M.Files c.File.Path).isSome && decide (2000≤(M.Files.length:Int))
    ·simp only [cond_false]
     have hcl:∀ x ∈ M.Files,undB x.Path c.File.Path=false∧undB c.File.Path x.Path=false:=fun x hx=>by
      have:=List.any_eq_false.1 ha x hx
      simpa [clash] using this
     refine { h with c2:=?_,g1:=?_,g2:=srt_ins h.g2 _,g3:=?_ }
     ·show (ins (fun x:api_File=>x.Path) c.File M.Files).length≤2000
      rw [len_ins h.g2]
      simp only [Bool.and_eq_false_iff,Bool.not_eq_false',decide_eq_false_iff_not] at hb
      rcases hb with hb | hb
      ·rw [if_pos hb]; omega
      ·split <;> omega
     ·intro x hx
      rcases mem_ins.1 hx with rfl | ⟨hx,_⟩
      ·exact eCh_put he e
      ·exact h.g1 x hx
     ·intro x hx y hy
      rcases mem_ins.1 hx with rfl | ⟨hx,_⟩ <;> rcases mem_ins.1 hy with rfl | ⟨hy,_⟩
      ·exact clash_irr _
      ·exact (hcl y hy).2
      ·exact (hcl x hx).1
      ·exact h.g3 x hx y hy
    ·exact h
   ·exact h
  ·cases hb:!(lkF M.Files c.File.Path).isSome
   ·simp only [cond_false]
    refine { h with c2:=?_,g1:=?_,g2:=srt_del h.g2 _,g3:=?_ }
    ·have:=len_del h.g2 c.File.Path
     show (del (fun x:api_File=>x.Path) c.File.Path M.Files).length≤2000
     omega
    ·intro x hx; exact h.g1 x (mem_del.1 hx).1
    ·intro x hx y hy; exact h.g3 x (mem_del.1 hx).1 y (mem_del.1 hy).1
   ·exact h
  ·cases hb:!(lkS M.Settings c.Setting.Key).isSome && decide (2000≤(M.Settings.length:Int))
   ·simp only [cond_false]
    refine { h with c3:=?_,s1:=?_,s2:=srt_ins h.s2 _ }
    ·show (ins (fun x:api_Setting=>x.Key) c.Setting M.Settings).length≤2000
     rw [len_ins h.s2]
     simp only [Bool.and_eq_false_iff,Bool.not_eq_false',decide_eq_false_iff_not] at hb
     rcases hb with hb | hb
     ·rw [if_pos hb]; omega
     ·split <;> omega
    ·intro x hx
     rcases mem_ins.1 hx with rfl | ⟨hx,_⟩
     ·exact eCh_set he e
     ·exact h.s1 x hx
   ·exact h
  ·cases hb:!(lkS M.Settings c.Setting.Key).isSome
   ·simp only [cond_false]
    refine { h with c3:=?_,s1:=?_,s2:=srt_del h.s2 _ }
    ·have:=len_del h.s2 c.Setting.Key
     show (del (fun x:api_Setting=>x.Key) c.Setting.Key M.Settings).length≤2000
     omega
    ·intro x hx; exact h.s1 x (mem_del.1 hx).1
   ·exact h
  ·cases hb:!(lkV M.Services c.Service.Name).isSome && decide (100≤(M.Services.length:Int))
   ·simp only [cond_false]
    refine { h with c4:=?_,v1:=?_,v2:=srt_ins h.v2 _ }
    ·show (ins (fun x:api_Service=>x.Name) c.Service M.Services).length≤100
     rw [len_ins h.v2]
     simp only [Bool.and_eq_false_iff,Bool.not_eq_false',decide_eq_false_iff_not] at hb
     rcases hb with hb | hb
     ·rw [if_pos hb]; omega
     ·split <;> omega
    ·intro x hx
     rcases mem_ins.1 hx with rfl | ⟨hx,_⟩
     ·exact eCh_svc he e
     ·exact h.v1 x hx
   ·exact h
  ·cases hb:!(lkV M.Services c.Service.Name).isSome
   ·simp only [cond_false]
    refine { h with c4:=?_,v1:=?_,v2:=srt_del h.v2 _ }
    ·have:=len_del h.v2 c.Service.Name
     show (del (fun x:api_Service=>x.Name) c.Service.Name M.Services).length≤100
     omega
    ·intro x hx; exact h.v1 x (mem_del.1 hx).1
   ·exact h
 ·rw [decide_eq_false he]; exact h
abbrev gF:Str→api_File→api_File:=fun _ v=>v
abbrev gV:Str→api_Service→api_Service:=fun _ v=>v
structure Wr (m1:List (Str × api_File)) (m2:List (Str × Str)) (m3:List (Str × api_Service)) (M:api_Machine):Prop where
 n1:(m1.map (·.1)).Nodup
 n2:(m2.map (·.1)).Nodup
 n3:(m3.map (·.1)).Nodup
 k1:∀ k v,alook m1 k=some v→v.Path=k
 k3:∀ k v,alook m3 k=some v→v.Name=k
 e1:toL gF noFile m1=M.Files
 e2:toL api_Setting.mk [] m2=M.Settings
 e3:toL gV noSvc m3=M.Services
theorem clone_set (l:List api_Setting) (h:l.length≤274877906944):slices_Clone_api_Setting_api_Setting l=some l:=by
 unfold slices_Clone_api_Setting_api_Setting
 refine anyOf_intro ⟨false,fun h=>by cases h⟩ fun b hb=>?_
 cases b with
 | true=>rw [hb rfl]; rfl
 | false=>rw [cond_false,chk_true (by simpa using h)]; rfl
theorem worldOf_eq {M:api_Machine} (h:Good M):∃ m1 m2 m3,R_worldOf M=some (m1,m2,m3,M.Facts)∧Wr m1 m2 m3 M:=by
 have hc2:=h.c2
 have hc3:=h.c3
 have hc4:=h.c4
 refine ⟨ofL (·.Path) id M.Files,ofL (·.Key) (·.Value) M.Settings,ofL (·.Name) id M.Services,?_,?_⟩
 ·unfold R_worldOf
  simp only [jp_eq]
  refine (ofLoop (key:=fun x:api_File=>x.Path) (w:=id) (fun _ _ _ _ _=>rfl) h.g2 (by omega)).trans ?_
  refine (ofLoop (key:=fun x:api_Setting=>x.Key) (w:=fun x=>x.Value) (fun _ _ _ _ _=>rfl) h.s2 (by omega)).trans ?_
  exact ofLoop (key:=fun x:api_Service=>x.Name) (w:=id) (fun _ _ _ _ _=>rfl) h.v2 (by omega)
 ·refine ⟨ofL_nodup h.g2,ofL_nodup h.s2,ofL_nodup h.v2,fun k v hv=>?_,fun k v hv=>?_,toL_ofL h.g2 fun _ _=>rfl,toL_ofL h.s2 fun _ _=>rfl,toL_ofL h.v2 fun _ _=>rfl⟩
  ·rw [ofL_look] at hv
   obtain ⟨x,hx,rfl⟩:=Option.map_eq_some_iff.1 hv
   exact (lk_some hx).2
  ·rw [ofL_look] at hv
   obtain ⟨x,hx,rfl⟩:=Option.map_eq_some_iff.1 hv
   exact (lk_some hx).2
section
variable {m1:List (Str × api_File)} {m2:List (Str × Str)} {m3:List (Str × api_Service)} {M:api_Machine}
theorem Wr.l1 (h:Wr m1 m2 m3 M):m1.length=M.Files.length:=by rw [← h.e1,toL_len]
theorem Wr.l2 (h:Wr m1 m2 m3 M):m2.length=M.Settings.length:=by rw [← h.e2,toL_len]
theorem Wr.l3 (h:Wr m1 m2 m3 M):m3.length=M.Services.length:=by rw [← h.e3,toL_len]
theorem Wr.look1 (h:Wr m1 m2 m3 M) (k:Str):alook m1 k=lkF M.Files k:=by
 rw [← h.e1]
 refine Eq.trans ?_ (toL_lk (key:=fun x:api_File=>x.Path) (g:=gF) (d:=noFile) h.k1 k).symm
 cases alook m1 k <;> rfl
theorem Wr.look2 (h:Wr m1 m2 m3 M) (k:Str):(alook m2 k).map (api_Setting.mk k)=lkS M.Settings k:=by
 rw [← h.e2]
 exact (toL_lk (key:=fun x:api_Setting=>x.Key) (g:=api_Setting.mk) (fun _ _ _=>rfl) k).symm
theorem Wr.look3 (h:Wr m1 m2 m3 M) (k:Str):alook m3 k=lkV M.Services k:=by
 rw [← h.e3]
 refine Eq.trans ?_ (toL_lk (key:=fun x:api_Service=>x.Name) (g:=gV) (d:=noSvc) h.k3 k).symm
 cases alook m3 k <;> rfl
theorem Wr.is2 (h:Wr m1 m2 m3 M) (k:Str):(alook m2 k).isSome=(lkS M.Settings k).isSome:=by
 rw [← h.look2,Option.isSome_map]
theorem Wr.mem1 (h:Wr m1 m2 m3 M) {p:Str × api_File} (hp:p ∈ m1):p.2 ∈ M.Files∧p.2.Path=p.1:=by
 have:=mem_alook h.n1 hp
 exact ⟨(lk_some ((h.look1 _).symm.trans this)).1,h.k1 _ _ this⟩
theorem Wr.put1 (h:Wr m1 m2 m3 M) (f:api_File):Wr (aset m1 f.Path f) m2 m3 ⟨M.Facts,ins (·.Path) f M.Files,M.Settings,M.Services⟩ :=
 { h with
  n1:=nodup_aset h.n1 _ _
  k1:=fun k v hv=>by
   rw [alook_aset] at hv
   split at hv
   ·rename_i e; cases hv; exact e
   ·exact h.k1 _ _ hv
  e1:=by rw [← h.e1]; exact toL_aset (key:=fun x:api_File=>x.Path) (g:=gF) h.n1 h.k1 _ _ rfl }
theorem Wr.put2 (h:Wr m1 m2 m3 M) (f:api_Setting):Wr m1 (aset m2 f.Key f.Value) m3 ⟨M.Facts,M.Files,ins (·.Key) f M.Settings,M.Services⟩ :=
 { h with
  n2:=nodup_aset h.n2 _ _
  e2:=by rw [← h.e2]; exact toL_aset (key:=fun x:api_Setting=>x.Key) (g:=api_Setting.mk) h.n2 (fun _ _ _=>rfl) _ _ rfl }
theorem Wr.put3 (h:Wr m1 m2 m3 M) (f:api_Service):Wr m1 m2 (aset m3 f.Name f) ⟨M.Facts,M.Files,M.Settings,ins (·.Name) f M.Services⟩ :=
 { h with
  n3:=nodup_aset h.n3 _ _
  k3:=fun k v hv=>by
   rw [alook_aset] at hv
   split at hv
   ·rename_i e; cases hv; exact e
   ·exact h.k3 _ _ hv
  e3:=by rw [← h.e3]; exact toL_aset (key:=fun x:api_Service=>x.Name) (g:=gV) h.n3 h.k3 _ _ rfl }
theorem Wr.del1 (h:Wr m1 m2 m3 M) (k:Str):Wr (adel m1 k) m2 m3 ⟨M.Facts,del (·.Path) k M.Files,M.Settings,M.Services⟩ :=
 { h with
  n1:=nodup_adel h.n1 _
  k1:=fun k v hv=>by
   rw [alook_adel h.n1] at hv
   split at hv
   ·cases hv
   ·exact h.k1 _ _ hv
  e1:=by rw [← h.e1]; exact toL_adel (key:=fun x:api_File=>x.Path) (g:=gF) h.n1 h.k1 _ }
theorem Wr.del2 (h:Wr m1 m2 m3 M) (k:Str):Wr m1 (adel m2 k) m3 ⟨M.Facts,M.Files,del (·.Key) k M.Settings,M.Services⟩ :=
 { h with
  n2:=nodup_adel h.n2 _
  e2:=by rw [← h.e2]; exact toL_adel (key:=fun x:api_Setting=>x.Key) (g:=api_Setting.mk) h.n2 (fun _ _ _=>rfl) _ }
theorem Wr.del3 (h:Wr m1 m2 m3 M) (k:Str):Wr m1 m2 (adel m3 k) ⟨M.Facts,M.Files,M.Settings,del (·.Name) k M.Services⟩ :=
 { h with
  n3:=nodup_adel h.n3 _
  k3:=fun k v hv=>by
   rw [alook_adel h.n3] at hv
   split at hv
   ·cases hv
   ·exact h.k3 _ _ hv
  e3:=by rw [← h.e3]; exact toL_adel (key:=fun x:api_Service=>x.Name) (g:=gV) h.n3 h.k3 _ }
theorem machine_eq (h:Wr m1 m2 m3 M) (hM:Good M):R_world_machine_i1 M.Facts m1 m2 m3=some M:=by
 have h1:=h.l1
 have h2:=h.l2
 have h3:=h.l3
 have hc1:=hM.c1
 have hc2:=hM.c2
 have hc3:=hM.c3
 have hc4:=hM.c4
 have e1:R_keys_api_File_i1 m1=some (keysM m1):=keysBody m1 (by omega)
 have e2:R_keys_string_i1 m2=some (keysM m2):=keysBody m2 (by omega)
 have e3:R_keys_api_Service_i1 m3=some (keysM m3):=keysBody m3 (by omega)
 unfold R_world_machine_i1
 simp only [jp_eq,clone_set _ (show M.Facts.length≤274877906944 by omega),call_some,e1,e2,e3]
 refine (collectLoop (g:=gF) (d:=noFile) (m:=m1) (fun _ _ _ _ _=>rfl) (by omega)).trans ?_
 refine (collectLoop (g:=api_Setting.mk) (d:=[]) (m:=m2) (fun _ _ _ _ _=>rfl) (by omega)).trans ?_
 refine (collectLoop (g:=gV) (d:=noSvc) (m:=m3) (fun _ _ _ _ _=>rfl) (by omega)).trans ?_
 rw [h.e1,h.e2,h.e3]
theorem do_eq (h:Wr m1 m2 m3 M) (hM:Good M) (c:api_Change) (hc:SmC c) (o:List api_Setting) :
  ∃ a b d,R_world_do_i1 c o m1 m2 m3=some ((stepM c M).1,a,b,d)∧Wr a b d (stepM c M).2:=by
 have h1:=h.l1
 have h2:=h.l2
 have h3:=h.l3
 have hc1:=hM.c1
 have hc2:=hM.c2
 have hc3:=hM.c3
 have hc4:=hM.c4
 unfold R_world_do_i1 stepM
 rw [R_change_eq c hc,call_some]
 by_cases he:eCh c=0
 ·rw [decide_eq_true he,Bool.not_true,cond_false]
  simp only [jp_eq,letv,h.look1,h.look3,h.is2,h1,h2,h3]
  rcases eCh_kind he with e | e | e | e | e | e
  all_goals simp only [e,kindEqs,decide_true,cond_true,cond_false]
  ·have hp:=pathOk_len (eFile_path (eCh_put he e)).1
   have hfor:∀ (X:Int × List (Str × api_File) × List (Str × Str) × List (Str × api_Service)) (k:Unit→Option (Int × List (Str × api_File) × List (Str × Str) × List (Str × api_Service))) (Y:Int × List (Str × api_File) × List (Str × Str) × List (Str × api_Service)),k ()=some Y →
     forM (fun (e_260:Str × api_File) (s:Unit) nx_254 k_253 =>
      call (R_under e_260.1 c.File.Path) fun r_262 =>
      callG (!r_262) (R_under c.File.Path e_260.1) false fun r_263 =>
      bif (r_262 || r_263) then some X else nx_254 ()) M.Files.length m1 () k=some (bif M.Files.any (clash c.File.Path) then X else Y):=by
    intro X k Y hk
    have hany:M.Files.any (clash c.File.Path)=m1.any fun p=>clash c.File.Path p.2:=by
     rw [Bool.eq_iff_iff]
     simp only [List.any_eq_true]
     constructor
     ·rintro ⟨x,hx,hx'⟩
      exact ⟨(x.Path,x),alook_mem ((h.look1 _).trans (lk_mem hM.g2 hx)),hx'⟩
     ·rintro ⟨p,hp',hx'⟩
      exact ⟨p.2,(h.mem1 hp').1,hx'⟩
    rw [hany]
    refine forM_run (fun r _=>(∀ p ∈ r,p ∈ m1)∧(m1.any fun p=>clash c.File.Path p.2)=r.any fun p=>clash c.File.Path p.2) (fun s hs=>?_) (fun r s nx x j hr hx hnx=>?_) _ _ _ h1 ⟨fun _ h=>h,rfl⟩
    ·rw [hs.2]; exact hk
    ·have hxm:=hr.1 x (List.mem_of_getElem? hx)
     obtain ⟨q1,q2⟩:=h.mem1 hxm
     have hl:=pathOk_len (eFile_path (hM.g1 _ q1)).1
     rw [q2] at hl
     rw [under_eq _ _ (by omega),under_eq _ _ (by omega),call_some,callG_some]
     have hcl:clash c.File.Path x.2=(undB x.1 c.File.Path || undB c.File.Path x.1):=by unfold clash; rw [q2]
     have hp2:=perm_eraseIdx hx
     have hany2:(r.any fun p=>clash c.File.Path p.2)=(clash c.File.Path x.2 || (r.eraseIdx j).any fun p=>clash c.File.Path p.2):=by
      rw [Bool.eq_iff_iff]
      simp only [Bool.or_eq_true,List.any_eq_true]
      constructor
      ·rintro ⟨y,hy,hy'⟩
       rcases List.mem_cons.1 (hp2.mem_iff.1 hy) with rfl | hy
       ·exact .inl hy'
       ·exact .inr ⟨y,hy,hy'⟩
      ·rintro (hy' | ⟨y,hy,hy'⟩)
       ·exact ⟨x,hp2.mem_iff.2 (List.mem_cons_self ..),hy'⟩
       ·exact ⟨y,hp2.mem_iff.2 (List.mem_cons_of_mem _ hy),hy'⟩
     cases hu:undB x.1 c.File.Path with
     | true =>
      rw [hu,Bool.true_or] at hcl
      rw [Bool.true_or,cond_true,hr.2,hany2,hcl,Bool.true_or,cond_true]
     | false =>
      rw [hu,Bool.false_or] at hcl
      rw [Bool.false_or,Bool.not_false,cond_true]
      cases hv:undB c.File.Path x.1 with
      | true =>
       rw [hv] at hcl
       rw [cond_true,hr.2,hany2,hcl,Bool.true_or,cond_true]
      | false =>
       rw [hv] at hcl
       rw [hcl,Bool.false_or] at hany2
       rw [cond_false]
       exact hnx () ⟨fun p hp=>hr.1 p (hp2.mem_iff.2 (List.mem_cons_of_mem _ hp)),hr.2.trans hany2⟩
   have ha:=len_aset m1 c.File.Path c.File
   have ha':(aset m1 c.File.Path c.File).length≤274877906944:=by split at ha <;> omega
   rw [chk_true ha']
   rw [hfor _ _ (bif !(lkF M.Files c.File.Path).isSome && decide (2000≤(M.Files.length:Int)) then (4,m1,m2,m3) else (0,aset m1 c.File.Path c.File,m2,m3)) (condS _ _ _)]
   cases M.Files.any (clash c.File.Path)
   ·simp only [cond_false]
    cases !(lkF M.Files c.File.Path).isSome && decide (2000≤(M.Files.length:Int))
    ·exact ⟨_,_,_,rfl,h.put1 _⟩
    ·exact ⟨_,_,_,rfl,h⟩
   ·exact ⟨_,_,_,rfl,h⟩
  ·cases (lkF M.Files c.File.Path).isSome
   ·exact ⟨_,_,_,rfl,h⟩
   ·exact ⟨_,_,_,rfl,h.del1 _⟩
  ·have ha:=len_aset m2 c.Setting.Key c.Setting.Value
   have ha':(aset m2 c.Setting.Key c.Setting.Value).length≤274877906944:=by split at ha <;> omega
   rw [chk_true ha']
   cases !(lkS M.Settings c.Setting.Key).isSome && decide (2000≤(M.Settings.length:Int))
   ·exact ⟨_,_,_,rfl,h.put2 _⟩
   ·exact ⟨_,_,_,rfl,h⟩
  ·cases (lkS M.Settings c.Setting.Key).isSome
   ·exact ⟨_,_,_,rfl,h⟩
   ·exact ⟨_,_,_,rfl,h.del2 _⟩
  ·have ha:=len_aset m3 c.Service.Name c.Service
   have ha':(aset m3 c.Service.Name c.Service).length≤274877906944:=by split at ha <;> omega
   rw [chk_true ha']
   cases !(lkV M.Services c.Service.Name).isSome && decide (100≤(M.Services.length:Int))
   ·exact ⟨_,_,_,rfl,h.put3 _⟩
   ·exact ⟨_,_,_,rfl,h⟩
  ·cases (lkV M.Services c.Service.Name).isSome
   ·exact ⟨_,_,_,rfl,h⟩
   ·exact ⟨_,_,_,rfl,h.del3 _⟩
 ·rw [decide_eq_false he]
  exact ⟨_,_,_,rfl,h⟩
end
theorem step_facts (c:api_Change) (M:api_Machine):(stepM c M).2.Facts=M.Facts:=by
 unfold stepM
 generalize hg1:(!decide (eCh c=0))=b1
 generalize decide (c.Kind=2)=b2
 generalize decide (c.Kind=4)=b3
 generalize decide (c.Kind=6)=b4
 generalize decide (c.Kind=1)=b5
 generalize decide (c.Kind=3)=b6
 cases b1 <;> cases b2 <;> cases b3 <;> cases b4 <;> cases b5 <;> cases b6 <;> simp only [cond_true,cond_false] <;> (first | rfl | (split <;> rfl) | skip)
 all_goals repeat' (first | rfl | (rw [Bool.cond_eq_ite]; split))
theorem R_Apply_eq (M:api_Machine) (hf:Fit M) (l:List api_Change) (hl:∀ c ∈ l,SmC c):R_Apply M l=some (applyM M l):=by
 unfold R_Apply applyM
 rw [R_Check_eq M hf,call_some]
 by_cases h0:checkE M=0
 ·rw [decide_eq_true h0,Bool.not_true,cond_false,cond_false]
  have hM:=(good_iff M).1 h0
  obtain ⟨m1,m2,m3,e,hw⟩:=worldOf_eq hM
  rw [e,call_some]
  simp only [jp_eq]
  have:∀ (l:List api_Change) (i:Nat) (m1:List (Str × api_File)) (m2:List (Str × Str)) (m3:List (Str × api_Service)) (N:api_Machine),(∀ c ∈ l,SmC c)→Good N→N.Facts=M.Facts→Wr m1 m2 m3 N →
    forL l i (fun i_36 c_38 s nx_35 k_34 =>
     match s with
     | (m3_29,m4_30,m5_31) =>
      call (R_world_do_i1 c_38 M.Facts m3_29 m4_30 m5_31) fun r_39 =>
      bif !decide (r_39.1=0) then
       some ((api_Machine.mk [] [] [] []),r_39.1)
      else
      nx_35 (r_39.2.1,r_39.2.2.1,r_39.2.2.2)) (m1,m2,m3) (fun s=>match s with
     | (m3_29,m4_30,m5_31) =>
      call (R_world_machine_i1 M.Facts m3_29 m4_30 m5_31) fun r_24 =>
       some (r_24,(0:Int)))=some (stepsM l N):=by
   intro l
   induction l with
   | nil =>
    intro i m1 m2 m3 N _ hN hF hw
    unfold forL
    simp only
    rw [← hF,machine_eq hw hN,call_some]; rfl
   | cons c l ih =>
    intro i m1 m2 m3 N hc hN hF hw
    unfold forL
    simp only
    obtain ⟨a,b,d,e,hw'⟩:=do_eq hw hN c (hc c (List.mem_cons_self ..)) M.Facts
    rw [e,call_some]
    simp only [stepsM]
    rw [ih _ _ _ _ _ (fun x hx=>hc x (List.mem_cons_of_mem _ hx)) (good_step hN c) ((step_facts c N).trans hF) hw']
    exact condS _ _ _
  exact this l 0 m1 m2 m3 M hl hM rfl hw
 ·rw [decide_eq_false h0]; rfl
def Ends {Z:Type} (m:Option Z) (P:Z→Prop):Prop:=∃ z,m=some z∧P z
section
variable {Z A S α:Type} {P:Z→Prop}
theorem Ends.call {a:Option A} {k:A→Option Z} {Q:A→Prop} (h:Ends a Q) (hk:∀ x,Q x→Ends (k x) P):Ends (Vc.call a k) P:=by
 obtain ⟨x,rfl,hx⟩:=h
 exact hk x hx
theorem forL_ex {f:Nat→α→S→(S→Option Z)→(S→Option Z)→Option Z} {k:S→Option Z} (inv:Nat→List α→S→Prop)
  (h0:∀ i s,inv i [] s→Ends (k s) P) (h1:∀ i x l s nx,inv i (x::l) s→(∀ s',inv (i+1) l s'→Ends (nx s') P)→Ends (f i x s nx k) P) :
  ∀ (l:List α) (i:Nat) (s:S),inv i l s→Ends (forL l i f s k) P
 | [],i,s,h=>h0 i s h
 | x::l,i,s,h=>h1 i x l s _ h fun s' hs=>forL_ex inv h0 h1 l (i+1) s' hs
theorem loopN_ex {f:S→(S→Option Z)→(S→Option Z)→Option Z} {k:S→Option Z} (inv:S→Prop) (mu:S→Nat)
  (h:∀ s nx,inv s→(∀ s',inv s'→mu s' < mu s→Ends (nx s') P)→Ends (f s nx k) P):∀ (N:Nat) (s:S),inv s→mu s < N→Ends (loopN N f s k) P
 | 0,s,_,hm=>by omega
 | N+1,s,hi,hm=>by
  unfold loopN
  exact h s _ hi fun s' hs' hlt=>loopN_ex inv mu h N s' hs' (by omega)
theorem loopN_exF {f:S→(S→Option Z)→(S→Option Z)→Option Z} {k:S→Option Z} (inv:S→Prop) (mu:S→Nat)
  (h:∀ s nx,inv s→(∀ s',inv s'→mu s' < mu s→Ends (nx s') P)→Ends (f s nx k) P) (s:S) (hi:inv s) (hm:mu s < 1099511627776):Ends (loopN Fuel f s k) P:=by
 obtain ⟨N,hN⟩:∃ N,Fuel=N:=⟨_,rfl⟩
 have hN2:1099511627776≤N:=hN ▸ fuel_ge
 rw [hN]
 exact loopN_ex inv mu h N s hi (by omega)
end
abbrev kAt (o:List api_Setting) (p:Nat):Str:=(o.getD p (api_Setting.mk [] [])).Key
theorem fit1_eq (a b:api_Setting):Law_fit_1 a b=some (cmpB a.Key b.Key):=rfl
theorem getD_set {α:Type} (o:List α) (i p:Nat) (x d:α) (h:i < o.length):(o.set i x).getD p d=if i=p then x else o.getD p d:=by
 simp only [List.getD_eq_getElem?_getD,List.getElem?_set]
 by_cases e:i=p
 ·subst e; simp [h]
 ·simp [e]
theorem getD_mem {α:Type} (o:List α) (i:Nat) (d:α) (h:i < o.length):o.getD i d ∈ o:=by
 simp only [List.getD_eq_getElem?_getD,List.getElem?_eq_getElem h,Option.getD_some]
 exact List.getElem_mem h
structure Sorted (o0 o:List api_Setting):Prop where
 len:o.length=o0.length
 sub:∀ x ∈ o,x ∈ o0
 ord:∀ p q,p < q→q < o.length→¬ kAt o q < kAt o p
theorem insSort (o0:List api_Setting) (hn:o0.length≤1073741824):Ends (slices_insertionSortCmpFunc_api_Setting_i1 0 (o0.length:Int) o0) (Sorted o0):=by
 unfold slices_insertionSortCmpFunc_api_Setting_i1
 rw [show IntKind.i64.wrap ((0:Int)+1)=((1:Nat):Int) from rfl]
 refine loopN_exF (fun st:Int × List api_Setting=>∃ i:Nat,st.1=i∧1≤i∧(i≤o0.length ∨ i=1)∧st.2.length=o0.length∧(∀ x ∈ st.2,x ∈ o0)∧∀ p q,p < q→q < i→q < o0.length→¬ kAt st.2 q < kAt st.2 p) (fun st=>o0.length - st.1.toNat) ?_ _ ⟨1,rfl,by omega,by omega,rfl,fun _ h=>h,fun p q h1 h2=>by omega⟩ (by simp only; omega)
 rintro ⟨i',o⟩ nx ⟨i,rfl,hi1,hi,hl,hs,ho⟩ hnx
 simp only at hl hs ho hnx ⊢
 by_cases hlt:i < o0.length
 ·rw [decide_eq_true (by omega),cond_true,jp_eq]
  refine loopN_exF (fun st:Int × List api_Setting=>∃ j:Nat,st.1=j∧j≤i∧st.2.length=o0.length∧(∀ x ∈ st.2,x ∈ o0)∧∀ p q,p < q→q≤i→q ≠ j→¬ kAt st.2 q < kAt st.2 p) (fun st=>st.1.toNat) ?_ _ ⟨i,rfl,Nat.le_refl _,hl,hs,fun p q h1 h2 h3=>ho p q h1 (by omega) (by omega)⟩ (by simp only; omega)
  rintro ⟨j',o1⟩ nx1 ⟨j,rfl,hj,hl1,hs1,ho1⟩ hnx1
  simp only at hl1 hs1 ho1 hnx1 ⊢
  have hend:(j=0 ∨ ¬ kAt o1 j < kAt o1 (j - 1))→Ends (nx (IntKind.i64.wrap ((i:Int)+1),o1)) (Sorted o0):=by
   intro hj0
   rw [wrap1 i (by omega)]
   refine hnx _ ⟨i+1,rfl,by omega,by omega,hl1,hs1,fun p q h1 h2 h3=>?_⟩ (by simp only; omega)
   by_cases hq:q=j
   ·subst hq
    rcases hj0 with hj0 | hj0
    ·omega
    ·by_cases hp:p=q - 1
     ·rw [hp]; exact hj0
     ·have h4:=ho1 p (q - 1) (by omega) (by omega) (by omega)
      intro h5
      rcases slt_tri (kAt o1 q) (kAt o1 (q - 1)) with h6 | h6 | h6
      ·exact hj0 h6
      ·exact h4 (h6 ▸ h5)
      ·exact h4 (slt_trans h6 h5)
   ·exact ho1 p q h1 (by omega) hq
  by_cases hj0:0 < j
  ·have hw:IntKind.i64.wrap ((j:Int) - 1)=((j - 1:Nat):Int):=wrapm1 _ hj0 (by omega)
   simp only [hw]
   rw [decide_eq_true (by omega),chk_true (by intro _; omega),chk_true (by intro _; omega),callG_true,fit1_eq,call_some,Bool.true_and,cmpB_lt]
   simp only [Int.toNat_natCast]
   by_cases hc:kAt o1 j < kAt o1 (j - 1)
   ·rw [decide_eq_true hc,cond_true,chk_true (by omega),chk_true (by omega),chk_true (by omega),chk_true (by simp only [List.length_set]; omega)]
    refine hnx1 _ ⟨j - 1,rfl,by omega,by simpa using hl1,fun x hx=>?_,fun p q h1 h2 h3=>?_⟩ (by simp only; omega)
    ·rcases List.mem_or_eq_of_mem_set hx with hx | rfl
     ·rcases List.mem_or_eq_of_mem_set hx with hx | rfl
      ·exact hs1 x hx
      ·exact hs1 _ (getD_mem _ _ _ (by omega))
     ·exact hs1 _ (getD_mem _ _ _ (by omega))
    ·have hset:∀ p,kAt ((o1.set j (o1.getD (j - 1) (api_Setting.mk [] []))).set (j - 1) (o1.getD j (api_Setting.mk [] []))) p=if p=j - 1 then kAt o1 j else if p=j then kAt o1 (j - 1) else kAt o1 p:=by
      intro p
      unfold kAt
      rw [getD_set _ _ _ _ _ (by simp only [List.length_set]; omega),getD_set _ _ _ _ _ (by omega)]
      by_cases e1:j - 1=p
      ·rw [if_pos e1,if_pos e1.symm]
      ·have e1':¬ p=j - 1:=fun e=>e1 e.symm
       rw [if_neg e1,if_neg e1']
       by_cases e2:j=p
       ·rw [if_pos e2,if_pos e2.symm]
       ·have e2':¬ p=j:=fun e=>e2 e.symm
        rw [if_neg e2,if_neg e2']
     show ¬ kAt ((o1.set j (o1.getD (j - 1) (api_Setting.mk [] []))).set (j - 1) (o1.getD j (api_Setting.mk [] []))) q < kAt ((o1.set j (o1.getD (j - 1) (api_Setting.mk [] []))).set (j - 1) (o1.getD j (api_Setting.mk [] []))) p
     rw [hset,hset,if_neg h3]
     by_cases hq:q=j
     ·subst hq
      rw [if_pos rfl]
      by_cases hp:p=q - 1
      ·rw [if_pos hp]; exact slt_asymm hc
      ·rw [if_neg hp,if_neg (by omega)]
       exact ho1 p (q - 1) (by omega) (by omega) (by omega)
     ·rw [if_neg hq]
      by_cases hp:p=j - 1
      ·rw [if_pos hp]
       exact ho1 j q (by omega) h2 hq
      ·rw [if_neg hp]
       by_cases hp2:p=j
       ·rw [if_pos hp2]
        exact ho1 (j - 1) q (by omega) h2 hq
       ·rw [if_neg hp2]
        exact ho1 p q h1 h2 hq
   ·rw [decide_eq_false hc,cond_false]
    exact hend (.inr hc)
  ·rw [decide_eq_false (by omega),chk_true (by intro h; cases h),chk_true (by intro h; cases h),callG_false,Bool.false_and,cond_false]
   exact hend (.inl (by omega))
 ·rw [decide_eq_false (by omega),cond_false]
  exact ⟨_,rfl,hl,hs,fun p q h1 h2=>ho p q h1 (by omega) (by omega)⟩
theorem insSort20 (o:List api_Setting):slices_insertionSortCmpFunc_api_Setting_i1 20 20 o=some o:=by
 unfold slices_insertionSortCmpFunc_api_Setting_i1
 obtain ⟨N,hN⟩:∃ N,Fuel=N+1:=⟨1099511627775,rfl⟩
 rw [hN]
 unfold loopN
 rfl
theorem loopOnce {Z S:Type} {f:S→(S→Option Z)→(S→Option Z)→Option Z} {k:S→Option Z} {s:S} (h:∀ nx,f s nx k=k s):loopN Fuel f s k=k s:=by
 obtain ⟨N,hN⟩:∃ N,Fuel=N+1:=⟨1099511627775,rfl⟩
 rw [hN]
 unfold loopN
 exact h _
theorem sortStable (o0:List api_Setting) (hn:o0.length≤20):Ends (slices_SortStableFunc_api_Setting_api_Setting_i1 o0) (Sorted o0):=by
 unfold slices_SortStableFunc_api_Setting_api_Setting_i1 slices_stableCmpFunc_api_Setting_i1
 refine Ends.call (Q:=Sorted o0) ?_ fun x hx=>⟨x,rfl,hx⟩
 rw [jp_eq]
 by_cases h20:o0.length=20
 ·obtain ⟨o,e,ho⟩:=insSort o0 (by omega)
  rw [h20] at e ⊢
  have e':slices_insertionSortCmpFunc_api_Setting_i1 0 20 o0=some o:=e
  refine loopN_exF (fun st:Int × Int × List api_Setting=>(st=(0,20,o0)) ∨ st=(20,40,o)) (fun st=>40 - st.2.1.toNat) ?_ _ (.inl rfl) (by simp only; omega)
  rintro st nx (rfl | rfl) hnx
  ·simp only
   rw [decide_eq_true (by omega),cond_true,e',call_some]
   exact hnx _ (.inr rfl) (show 40 - (IntKind.i64.wrap (20+20)).toNat < 40 - (20:Int).toNat by decide)
  ·simp only
   rw [decide_eq_false (by omega),cond_false]
   refine Ends.call (Q:=fun x=>x=o) ⟨o,insSort20 o,rfl⟩ ?_
   rintro x rfl
   rw [loopOnce (fun nx=>by simp only; rw [decide_eq_false (by omega),cond_false])]
   exact ⟨_,rfl,ho⟩
 ·refine loopN_exF (fun st:Int × Int × List api_Setting=>st=(0,20,o0)) (fun st=>0) ?_ _ rfl (by omega)
  rintro st nx rfl hnx
  simp only
  rw [decide_eq_false (by omega),cond_false]
  refine Ends.call (insSort o0 (by omega)) fun o ho=>?_
  rw [loopOnce (fun nx=>by simp only; rw [decide_eq_false (by omega),cond_false])]
  exact ⟨_,rfl,ho⟩
def cutL (z:Nat × Nat × List api_Setting):List api_Setting:=List.take z.2.1 (List.drop z.1 z.2.2)
structure Compacted (o:List api_Setting) (z:Nat × Nat × List api_Setting):Prop where
 len:(cutL z).length≤o.length
 sub:∀ x ∈ cutL z,x ∈ o
 srt:Srt (·.Key) (cutL z)
theorem fit2_eq (a b:api_Setting):Law_fit_2 a b=some (decide (a.Key=b.Key)):=rfl
theorem srt_of_at {l:List api_Setting} (h:∀ p q,p < q→q < l.length→kAt l p < kAt l q):Srt (·.Key) l:=by
 unfold Srt
 rw [List.pairwise_iff_getElem]
 intro i j hi hj hij
 have:=h i j hij hj
 simpa [kAt,List.getD_eq_getElem?_getD,hi,hj] using this
theorem kAt_take {o:List api_Setting} {n p:Nat} (h:p < n):kAt (o.take n) p=kAt o p:=by
 simp [kAt,List.getD_eq_getElem?_getD,List.getElem?_take,h]
theorem compact (o:List api_Setting) (hl:o.length≤1073741824) (ho:∀ p q,p < q→q < o.length→¬ kAt o q < kAt o p) :
  Ends (slices_CompactFunc_api_Setting_api_Setting_i1 o) (Compacted o):=by
 unfold slices_CompactFunc_api_Setting_api_Setting_i1
 have h0:List.take o.length o=o:=by simp
 rw [h0]
 by_cases h2:(o.length:Int) < 2
 ·rw [decide_eq_true h2,cond_true]
  refine ⟨_,rfl,?_,?_,?_⟩
  ·simp [cutL]
  ·intro x hx; simpa [cutL] using hx
  ·refine srt_of_at fun p q hp hq=>?_
   simp [cutL] at hq
   omega
 ·rw [decide_eq_false h2,cond_false,jp_eq]
  refine loopN_exF (fun k:Int=>∃ i:Nat,k=i∧1≤i∧i≤o.length∧∀ p q,p < q→q < i→kAt o p < kAt o q) (fun k=>o.length - k.toNat) ?_ _ ⟨1,rfl,Nat.le_refl _,by omega,fun p q h1 h2=>by omega⟩ (by omega)
  rintro k' nx ⟨K0,rfl,hK1,hK2,hK⟩ hnx
  by_cases hlt:K0 < o.length
  ·have hw:IntKind.i64.wrap ((K0:Int) - 1)=((K0 - 1:Nat):Int):=wrapm1 _ hK1 (by omega)
   simp only [hw,Int.toNat_natCast,Nat.zero_add]
   rw [decide_eq_true (by omega),cond_true,jp_eq,chk_true (by omega),chk_true (by omega),fit2_eq,call_some]
   by_cases he:kAt o K0=kAt o (K0 - 1)
   ·rw [decide_eq_true he,cond_true,chk_true (by omega),jp_eq]
    refine loopN_exF (fun st:Int × Int × List api_Setting=>∃ k k2:Nat,st.1=k∧st.2.1=k2∧K0≤k∧1≤k2∧k+1≤K0+k2∧K0+k2≤o.length∧st.2.2.length=o.length∧(∀ x ∈ st.2.2,x ∈ o) ∧
      (∀ p,K0+k2≤p+1→kAt st.2.2 p=kAt o p∧st.2.2.getD p (api_Setting.mk [] [])=o.getD p (api_Setting.mk [] []))∧(∀ p q,p < q→q < k→kAt st.2.2 p < kAt st.2.2 q)∧kAt st.2.2 (k - 1)=kAt o (K0+k2 - 1)) (fun st=>o.length - st.2.1.toNat) ?_ _
     ⟨K0,1,rfl,rfl,Nat.le_refl _,Nat.le_refl _,Nat.le_refl _,by omega,rfl,fun _ h=>h,fun _ _=>⟨rfl,rfl⟩,hK,by simpa using he.symm⟩ (by simp only; omega)
    rintro ⟨ki,k2i,o1⟩ nx1 ⟨k,k2,rfl,rfl,q1,q2,q3,q4,q5,q6,q7,q8,q9⟩ hnx1
    simp only at q5 q6 q7 q8 q9 hnx1 ⊢
    have hlen:(List.take (o.length - K0) (List.drop K0 o1)).length=o.length - K0:=by simp [q5]
    by_cases hk2:K0+k2 < o.length
    ·have hw2:IntKind.i64.wrap ((k2:Int) - 1)=((k2 - 1:Nat):Int):=wrapm1 _ q2 (by omega)
     simp only [hw2,Int.toNat_natCast]
     rw [decide_eq_true (by omega),cond_true,chk_true (by omega),chk_true (by omega),chk_true (by omega),chk_true (by omega),fit2_eq,call_some]
     have e1:K0+(k2 - 1)=K0+k2 - 1:=by omega
     have r1:=(q7 (K0+k2) (by omega)).1
     have r2:=(q7 (K0+k2 - 1) (by omega)).1
     have hdec:decide ((api_Setting.mk ((o1.getD (K0+k2) (api_Setting.mk [] [])).Key) ((o1.getD (K0+k2) (api_Setting.mk [] [])).Value)).Key=(api_Setting.mk ((o1.getD (K0+(k2 - 1)) (api_Setting.mk [] [])).Key) ((o1.getD (K0+(k2 - 1)) (api_Setting.mk [] [])).Value)).Key)=decide (kAt o (K0+k2)=kAt o (K0+k2 - 1)):=by
      simp only [e1]
      show decide (kAt o1 (K0+k2)=kAt o1 (K0+k2 - 1))=_
      rw [r1,r2]
     rw [hdec]
     by_cases heq:kAt o (K0+k2)=kAt o (K0+k2 - 1)
     ·rw [decide_eq_true heq,Bool.not_true,cond_false,wrap1 k2 (by omega)]
      refine hnx1 _ ⟨k,k2+1,rfl,rfl,q1,by omega,by omega,by omega,q5,q6,fun p hp=>q7 p (by omega),q8,?_⟩ (by simp only; omega)
      simp only
      rw [q9,show K0+(k2+1) - 1=K0+k2 by omega,heq]
     ·rw [decide_eq_false heq,Bool.not_false,cond_true,chk_true (by omega),chk_true (by omega),chk_true (by omega),chk_true (by omega),wrap1 k2 (by omega),wrap1 k (by omega)]
      have hgt:kAt o (K0+k2 - 1) < kAt o (K0+k2):=by
       rcases slt_tri (kAt o (K0+k2 - 1)) (kAt o (K0+k2)) with h | h | h
       ·exact h
       ·exact absurd h.symm heq
       ·exact absurd h (ho _ _ (by omega) (by omega))
      have hset:∀ p,(o1.set k (api_Setting.mk ((o1.getD (K0+k2) (api_Setting.mk [] [])).Key) ((o1.getD (K0+k2) (api_Setting.mk [] [])).Value))).getD p (api_Setting.mk [] [])=if k=p then o1.getD (K0+k2) (api_Setting.mk [] []) else o1.getD p (api_Setting.mk [] []):=by
       intro p
       rw [getD_set _ _ _ _ _ (by omega)]
      refine hnx1 _ ⟨k+1,k2+1,rfl,rfl,by omega,by omega,by omega,by omega,by simpa using q5,fun x hx=>?_,fun p hp=>?_,fun p q hp hq=>?_,?_⟩ (by simp only; omega)
      ·rcases List.mem_or_eq_of_mem_set hx with hx | rfl
       ·exact q6 x hx
       ·exact q6 _ (getD_mem _ _ _ (by omega))
      ·simp only [kAt,hset]
       rw [if_neg (by omega)]
       exact q7 p (by omega)
      ·simp only [kAt,hset]
       rw [if_neg (by omega)]
       by_cases hqk:q=k
       ·subst hqk
        rw [if_pos rfl]
        show kAt o1 p < kAt o1 (K0+k2)
        rw [r1]
        by_cases hpk:p=q - 1
        ·subst hpk; rw [q9]; exact hgt
        ·have:=q8 p (q - 1) (by omega) (by omega)
         rw [q9] at this
         exact slt_trans this hgt
       ·rw [if_neg (fun e=>hqk e.symm)]
        exact q8 p q hp (by omega)
      ·simp only [kAt,hset]
       rw [if_pos (by omega)]
       show kAt o1 (K0+k2)=kAt o (K0+(k2+1) - 1)
       rw [r1]; rfl
    ·rw [decide_eq_false (by omega),cond_false,chk_true (by omega),chk_true (by omega)]
     have hcut:cutL (0,k,List.take k o1++List.replicate (o.length - k) (api_Setting.mk [] [])++List.drop (k+(o.length - k)) o1)=o1.take k:=by
      unfold cutL
      simp only [List.drop_zero,List.append_assoc]
      rw [List.take_append_of_le_length (by simp only [List.length_take]; omega),List.take_take,Nat.min_self]
     refine ⟨_,rfl,?_,?_,?_⟩
     ·show (cutL (0,k,_)).length≤_
      rw [Int.toNat_natCast,hcut,List.length_take]; omega
     ·show ∀ x ∈ cutL (0,k,_),_
      rw [Int.toNat_natCast,hcut]
      exact fun x hx=>q6 x (List.mem_of_mem_take hx)
     ·show Srt _ (cutL (0,k,_))
      rw [Int.toNat_natCast,hcut]
      refine srt_of_at fun p q hp hq=>?_
      rw [List.length_take] at hq
      rw [kAt_take (by omega),kAt_take (by omega)]
      exact q8 p q hp (by omega)
   ·rw [decide_eq_false he,cond_false,wrap1 K0 (by omega)]
    refine hnx _ ⟨K0+1,rfl,by omega,by omega,fun p q h1 h2=>?_⟩ (by omega)
    have hgt:kAt o (K0 - 1) < kAt o K0:=by
     rcases slt_tri (kAt o (K0 - 1)) (kAt o K0) with h | h | h
     ·exact h
     ·exact absurd h.symm he
     ·exact absurd h (ho _ _ (by omega) (by omega))
    by_cases hq:q=K0
    ·subst hq
     by_cases hp:p=q - 1
     ·subst hp; exact hgt
     ·exact slt_trans (hK p (q - 1) (by omega) (by omega)) hgt
    ·exact hK p q h1 (by omega)
  ·rw [decide_eq_false (by omega),cond_false]
   refine ⟨_,rfl,?_,?_,?_⟩
   ·simp [cutL]
   ·intro x hx; simpa [cutL] using hx
   ·have e0:cutL (0,o.length,o)=o:=by simp [cutL]
    show Srt _ (cutL (0,o.length,o))
    rw [e0]
    exact srt_of_at fun p q hp hq=>hK p q hp (by omega)
structure Fw (a b d:Nat) (M:api_Machine):Prop where
 good:Good M
 facts:M.Facts.length≤20
 files:M.Files.length≤a
 data:∀ f ∈ M.Files,f.Data.length≤3000
 sets:M.Settings.length≤b
 svcs:M.Services.length≤d
def chPut (f:api_File):api_Change:=⟨1,f,⟨[],[]⟩,⟨[],[],false,false⟩⟩
def chSet (s:api_Setting):api_Change:=⟨3,⟨[],[],false⟩,s,⟨[],[],false,false⟩⟩
def chSvc (s:api_Service):api_Change:=⟨5,⟨[],[],false⟩,⟨[],[]⟩,s⟩
theorem fit3_eq (c:api_Change) (hc:SmC c) (M:api_Machine) (h:Good M):Law_fit_3_i2 c M.Facts M.Files M.Settings M.Services=some (bif decide ((stepM c M).1=0) then ((stepM c M).2.Facts,(stepM c M).2.Files,(stepM c M).2.Settings,(stepM c M).2.Services) else (M.Facts,M.Files,M.Settings,M.Services)):=by
 unfold Law_fit_3_i2
 rw [R_Apply_eq _ h.fit [c] (fun x hx=>by rcases List.mem_cons.1 hx with rfl | hx; exact hc; cases hx),call_some]
 unfold applyM
 rw [decide_eq_true ((good_iff M).2 h),Bool.not_true,cond_false]
 unfold stepsM stepsM
 by_cases h0:(stepM c M).1=0
 ·rw [decide_eq_true h0]; rfl
 ·rw [decide_eq_false h0]
  simp only [Bool.not_false,cond_true]
  rw [decide_eq_false h0]; rfl
section
variable {a b d:Nat} {M:api_Machine}
theorem Fw.next (h:Fw a b d M) (c:api_Change):Good (stepM c M).2∧(stepM c M).2.Facts.length≤20:=⟨good_step h.good c,by rw [step_facts]; exact h.facts⟩
theorem step_put (f:api_File) (M:api_Machine):(stepM (chPut f) M).2=M ∨ (stepM (chPut f) M).2=⟨M.Facts,ins (·.Path) f M.Files,M.Settings,M.Services⟩:=by
 unfold stepM
 have hk:(chPut f).Kind=1:=rfl
 rw [hk]
 simp only [kindEqs,decide_true,cond_true,cond_false]
 cases !decide (eCh (chPut f)=0)
 ·cases M.Files.any (clash (chPut f).File.Path)
  ·cases !(lkF M.Files (chPut f).File.Path).isSome && decide (2000≤(M.Files.length:Int))
   ·exact .inr rfl
   ·exact .inl rfl
  ·exact .inl rfl
 ·exact .inl rfl
theorem step_set (f:api_Setting) (M:api_Machine):(stepM (chSet f) M).2=M ∨ (stepM (chSet f) M).2=⟨M.Facts,M.Files,ins (·.Key) f M.Settings,M.Services⟩:=by
 unfold stepM
 have hk:(chSet f).Kind=3:=rfl
 rw [hk]
 simp only [kindEqs,decide_true,cond_true,cond_false]
 cases !decide (eCh (chSet f)=0)
 ·cases !(lkS M.Settings (chSet f).Setting.Key).isSome && decide (2000≤(M.Settings.length:Int))
  ·exact .inr rfl
  ·exact .inl rfl
 ·exact .inl rfl
theorem step_svc (f:api_Service) (M:api_Machine):(stepM (chSvc f) M).2=M ∨ (stepM (chSvc f) M).2=⟨M.Facts,M.Files,M.Settings,ins (·.Name) f M.Services⟩:=by
 unfold stepM
 have hk:(chSvc f).Kind=5:=rfl
 rw [hk]
 simp only [kindEqs,decide_true,cond_true,cond_false]
 cases !decide (eCh (chSvc f)=0)
 ·cases !(lkV M.Services (chSvc f).Service.Name).isSome && decide (100≤(M.Services.length:Int))
  ·exact .inr rfl
  ·exact .inl rfl
 ·exact .inl rfl
theorem Fw.put (h:Fw a b d M) (f:api_File) (hf:f.Data.length≤3000):Fw (a+1) b d (stepM (chPut f) M).2:=by
 obtain ⟨h1,h2⟩:=h.next (chPut f)
 rcases step_put f M with e | e <;> rw [e] at h1 h2 ⊢
 ·exact ⟨h1,h2,by have:=h.files; omega,h.data,h.sets,h.svcs⟩
 ·refine ⟨h1,h2,?_,fun x hx=>?_,h.sets,h.svcs⟩
  ·have:=h.files
   show (ins (fun x:api_File=>x.Path) f M.Files).length≤_
   rw [len_ins h.good.g2]
   split <;> omega
  ·rcases mem_ins.1 hx with rfl | ⟨hx,_⟩
   ·exact hf
   ·exact h.data x hx
theorem Fw.set (h:Fw a b d M) (f:api_Setting):Fw a (b+1) d (stepM (chSet f) M).2:=by
 obtain ⟨h1,h2⟩:=h.next (chSet f)
 rcases step_set f M with e | e <;> rw [e] at h1 h2 ⊢
 ·exact ⟨h1,h2,h.files,h.data,by have:=h.sets; omega,h.svcs⟩
 ·refine ⟨h1,h2,h.files,h.data,?_,h.svcs⟩
  have:=h.sets
  show (ins (fun x:api_Setting=>x.Key) f M.Settings).length≤_
  rw [len_ins h.good.s2]
  split <;> omega
theorem Fw.svc (h:Fw a b d M) (f:api_Service):Fw a b (d+1) (stepM (chSvc f) M).2:=by
 obtain ⟨h1,h2⟩:=h.next (chSvc f)
 rcases step_svc f M with e | e <;> rw [e] at h1 h2 ⊢
 ·exact ⟨h1,h2,h.files,h.data,h.sets,by have:=h.svcs; omega⟩
 ·refine ⟨h1,h2,h.files,h.data,h.sets,?_⟩
  have:=h.svcs
  show (ins (fun x:api_Service=>x.Name) f M.Services).length≤_
  rw [len_ins h.good.v2]
  split <;> omega
end
abbrev M4:=List api_Setting × List api_File × List api_Setting × List api_Service
def m4 (M:api_Machine):M4:=(M.Facts,M.Files,M.Settings,M.Services)
theorem fit3_few {a b d:Nat} {M:api_Machine} (h:Fw a b d M) {c:api_Change} (hc:SmC c) {a' b' d':Nat} (hn:Fw a' b' d' (stepM c M).2) (ha:a≤a') (hb:b≤b') (hd:d≤d') :
  Ends (Law_fit_3_i2 c M.Facts M.Files M.Settings M.Services) fun r=>∃ N,r=m4 N∧Fw a' b' d' N:=by
 refine ⟨_,fit3_eq c hc M h.good,?_⟩
 cases decide ((stepM c M).1=0)
 ·exact ⟨M,rfl,h.good,h.facts,Nat.le_trans h.files ha,h.data,Nat.le_trans h.sets hb,Nat.le_trans h.svcs hd⟩
 ·exact ⟨_,rfl,hn⟩
theorem putLoop {Z α:Type} {P:Z→Prop} {f:Nat→α→M4→(M4→Option Z)→(M4→Option Z)→Option Z} {k:M4→Option Z} (F:Nat→api_Machine→Prop) (n0:Nat) (Q:α→Prop)
  (hk:∀ n M,n≤n0→F n M→Ends (k (m4 M)) P) (hf:∀ i x nx k n M,Q x→F n M→(∀ N,F (n+1) N→Ends (nx (m4 N)) P)→Ends (f i x (m4 M) nx k) P) (l:List α) (hl:l.length≤n0) (hq:∀ x ∈ l,Q x) {M:api_Machine} (hM:F 0 M) :
  Ends (forL l 0 f (m4 M) k) P:=by
 refine forL_ex (fun i r st=>∃ M,st=m4 M∧F i M∧(∀ x ∈ r,Q x)∧i+r.length=l.length) (fun i s h=>?_) (fun i x r s nx h hnx=>?_) l 0 _ ⟨M,rfl,hM,hq,by omega⟩
 ·obtain ⟨M,rfl,h1,_,h2⟩:=h
  exact hk i M (by simp at h2; omega) h1
 ·obtain ⟨M,rfl,h1,h2,h3⟩:=h
  exact hf i x nx k i M (h2 x (List.mem_cons_self ..)) h1 fun N hN=>hnx _ ⟨N,rfl,hN,fun y hy=>h2 y (List.mem_cons_of_mem _ hy),by simp only [List.length_cons] at h3; omega⟩
theorem fit_ends (m:api_Machine) (hm:Fit m):Ends (Law_fit m) (Fw 40 40 40):=by
 have hm1:=hm.facts
 have hm2:=hm.files
 have hm3:=hm.sets
 have hm4:=hm.svcs
 unfold Law_fit
 rw [jp_eq]
 refine forL_ex (fun i r o=>o.length≤20∧o.length≤i∧i+r.length=m.Facts.length∧∀ x ∈ o,eFact x=0) (fun i o h=>?_) (fun i x r o nx h hnx=>?_) m.Facts 0 [] ⟨by simp,by simp,by simp,by simp⟩
 ·obtain ⟨h1,_,_,h2⟩:=h
  refine Ends.call (sortStable o h1) fun o1 hs=>?_
  refine Ends.call (compact o1 (by have:=hs.len; omega) hs.ord) fun z hz=>?_
  have hz1:=hz.len
  have hz2:=hs.len
  have hF:Fw 0 0 0 ⟨cutL z,[],[],[]⟩:=by
   refine ⟨⟨by simp only; omega,by simp,by simp,by simp,fun x hx=>h2 x (hs.sub x (hz.sub x hx)),hz.srt,by simp,by simp [Srt],by simp,by simp,by simp [Srt],by simp,by simp [Srt]⟩,by simp only; omega,by simp,by simp,by simp,by simp⟩
  rw [jp_eq,chk_true (by omega)]
  refine putLoop (F:=fun n M=>Fw n 0 0 M) (n0:=40) (Q:=fun f:api_File=>Sm f.Path) (fun n M hn hM=>?_) (fun i f nx k n M hf hM hnx=>?_) _ (by simp only [List.length_take]; omega) (fun x hx=>hm.fp x (List.mem_of_mem_take hx)) hF
  ·have hM40:Fw 40 0 0 M:=⟨hM.good,hM.facts,Nat.le_trans hM.files hn,hM.data,hM.sets,hM.svcs⟩
   show Ends (jp _ _) _
   rw [jp_eq,chk_true (by omega)]
   refine putLoop (F:=fun n M=>Fw 40 n 0 M) (n0:=40) (Q:=fun f:api_Setting=>Sm f.Key) (fun n M hn hM=>?_) (fun i f nx k n M hf hM hnx=>?_) _ (by simp only [List.length_take]; omega) (fun x hx=>hm.sp x (List.mem_of_mem_take hx)) hM40
   ·have hM40:Fw 40 40 0 M:=⟨hM.good,hM.facts,hM.files,hM.data,Nat.le_trans hM.sets hn,hM.svcs⟩
    show Ends (jp _ _) _
    rw [jp_eq,chk_true (by omega)]
    refine putLoop (F:=fun n M=>Fw 40 40 n M) (n0:=40) (Q:=fun f:api_Service=>Sm f.Path) (fun n M hn hM=>?_) (fun i f nx k n M hf hM hnx=>?_) _ (by simp only [List.length_take]; omega) (fun x hx=>hm.vp x (List.mem_of_mem_take hx)) hM40
    ·exact ⟨_,rfl,hM.good,hM.facts,hM.files,hM.data,hM.sets,Nat.le_trans hM.svcs hn⟩
    ·show Ends (call _ _) _
     refine Ends.call (fit3_few hM (c:=chSvc f) ⟨by simp [Sm,chSvc],by simp [Sm,chSvc],hf⟩ (hM.svc f) (Nat.le_refl _) (Nat.le_refl _) (Nat.le_succ _)) ?_
     rintro r ⟨N,rfl,hN⟩
     exact hnx N hN
   ·show Ends (call _ _) _
    refine Ends.call (fit3_few hM (c:=chSet f) ⟨by simp [Sm,chSet],hf,by simp [Sm,chSet]⟩ (hM.set f) (Nat.le_refl _) (Nat.le_succ _) (Nat.le_refl _)) ?_
    rintro r ⟨N,rfl,hN⟩
    exact hnx N hN
  ·show Ends (chk _ _) _
   rw [chk_true (by omega)]
   have hN:Fw (n+1) 0 0 _:=hM.put ⟨f.Path,List.take ((min (f.Data.length:Int) 3000).toNat) f.Data,f.Runs⟩ (by simp only [List.length_take]; omega)
   refine Ends.call (fit3_few hM (c:=chPut ⟨f.Path,List.take ((min (f.Data.length:Int) 3000).toNat) f.Data,f.Runs⟩) ⟨hf,by simp [Sm,chPut],by simp [Sm,chPut]⟩ hN (Nat.le_succ _) (Nat.le_refl _) (Nat.le_refl _)) ?_
   rintro r ⟨N,rfl,hN⟩
   exact hnx N hN
 ·obtain ⟨h1,h2,h3,h4⟩:=h
  simp only [List.length_cons] at h3
  rw [R_IsName_eq,R_IsValue_eq,call_some,callG_some]
  cases hb:(nameOk x.Key && (bif nameOk x.Key then valueOk x.Value else false)) && decide ((o.length:Int) < 20)
  ·exact hnx _ ⟨h1,by omega,by omega,h4⟩
  ·simp only [Bool.and_eq_true,decide_eq_true_eq] at hb
   obtain ⟨⟨hb1,hb2⟩,hb3⟩:=hb
   rw [hb1,cond_true] at hb2
   rw [cond_true,chk_true (by simp only [List.length_append,List.length_cons,List.length_nil]; omega)]
   refine hnx _ ⟨by simp only [List.length_append,List.length_cons,List.length_nil]; omega,by simp only [List.length_append,List.length_cons,List.length_nil]; omega,by omega,fun y hy=>?_⟩
   rcases List.mem_append.1 hy with hy | hy
   ·exact h4 y hy
   ·simp at hy
    subst hy
    unfold eFact
    rw [hb1,hb2]; rfl
theorem landed_eq:Law_landed=some true:=by
 unfold Law_landed
 rw [ver_IsName_eq]; rfl
def cntD (l:List api_File) (d:Str):Int:=((l.filter fun f=>undB f.Path d).length:Int)
def up (b:Bool) (n:Int):Int:=bif b then n else 0
theorem cntD_perm {l l':List api_File} (h:l.Perm l') (d:Str):cntD l d=cntD l' d:=by
 unfold cntD
 rw [(h.filter _).length_eq]
theorem cntD_cons (f:api_File) (l:List api_File) (d:Str):cntD (f::l) d=cntD l d+up (undB f.Path d) 1:=by
 unfold cntD up
 rw [List.filter_cons]
 cases undB f.Path d <;> simp
section
variable {A:Type} {key:A→Str}
theorem ins_perm {l:List A} (hs:Srt key l) (x:A):(ins key x l).Perm (x::del key (key x) l):=by
 refine (List.perm_ext_iff_of_nodup (srt_nodup (srt_ins hs x)) ?_).2 fun y=>?_
 ·rw [List.nodup_cons]
  exact ⟨fun h=>(mem_del.1 h).2 rfl,srt_nodup (srt_del hs _)⟩
 ·rw [mem_ins,List.mem_cons,mem_del]
theorem del_perm {l:List A} (hs:Srt key l) {k:Str} {x:A} (h:lk key l k=some x):l.Perm (x::del key k l):=by
 obtain ⟨h1,h2⟩:=lk_some h
 refine (List.perm_ext_iff_of_nodup (srt_nodup hs) ?_).2 fun y=>?_
 ·rw [List.nodup_cons]
  exact ⟨fun h=>(mem_del.1 h).2 h2,srt_nodup (srt_del hs _)⟩
 ·rw [List.mem_cons,mem_del]
  constructor
  ·intro hy
   by_cases e:key y=k
   ·exact .inl (srt_inj hs hy h1 (e.trans h2.symm))
   ·exact .inr ⟨hy,e⟩
  ·rintro (rfl | ⟨hy,_⟩)
   ·exact h1
   ·exact hy
theorem del_none {l:List A} {k:Str} (h:lk key l k=none):del key k l=l:=by
 unfold del
 rw [List.filter_eq_self]
 intro x hx
 have:=lk_none.1 h x hx
 simpa using this
end
theorem cntD_ins {l:List api_File} (hs:Srt (·.Path) l) (f:api_File) (d:Str):cntD (ins (·.Path) f l) d=cntD l d+up (!(lkF l f.Path).isSome && undB f.Path d) 1:=by
 rw [cntD_perm (ins_perm hs f),cntD_cons]
 cases h:lkF l f.Path with
 | none=>rw [del_none h]; rfl
 | some x =>
  rw [cntD_perm (del_perm hs h) d,cntD_cons,(lk_some h).2]
  simp [up]
theorem cntD_del {l:List api_File} (hs:Srt (·.Path) l) (k d:Str):cntD (del (·.Path) k l) d=cntD l d - up ((lkF l k).isSome && undB k d) 1:=by
 cases h:lkF l k with
 | none=>rw [del_none h]; simp [up]
 | some x =>
  rw [cntD_perm (del_perm hs h) d,cntD_cons,(lk_some h).2]
  simp only [Option.isSome_some,Bool.true_and]
  omega
theorem cntD_le (l:List api_File) (d:Str):0≤cntD l d∧cntD l d≤l.length:=by
 unfold cntD
 have:=List.length_filter_le (fun f:api_File=>undB f.Path d) l
 omega
theorem cntD_pos (l:List api_File) (p:Str):decide (0 < cntD l p)=l.any fun f=>undB f.Path p:=by
 rw [Bool.eq_iff_iff,decide_eq_true_eq,List.any_eq_true]
 unfold cntD
 constructor
 ·intro h
  obtain ⟨x,hx⟩:=List.exists_mem_of_length_pos (by omega:0 < (l.filter fun f=>undB f.Path p).length)
  exact ⟨x,(List.mem_filter.1 hx).1,(List.mem_filter.1 hx).2⟩
 ·rintro ⟨x,hx,h⟩
  have:=List.length_pos_of_mem (List.mem_filter (p:=fun f:api_File=>undB f.Path p) |>.2 ⟨hx,h⟩)
  omega
theorem undB_len {p d:Str} (h:undB p d=true):d.length < p.length:=by
 obtain ⟨r,rfl⟩:=undB_app h
 simp
theorem count_run (p:Str) (hp:p.length≤200) (n:Int) (hn:-1≤n∧n≤1) (o0:List api_Setting) (a:List (Str × api_File)) (m:List (Str × Int)) (hm:m.length≤137438953472) (hb:∀ d,-4611686018427387904≤(alook m d).getD 0∧(alook m d).getD 0≤4611686018427387904) (b:List (Str × api_Setting)) (c:List (Str × api_Service)) :
  ∃ m',disk_bench_count_i1 p n o0 a m b c=some m'∧m'.length≤m.length+200∧∀ d,(alook m' d).getD 0=(alook m d).getD 0+up (undB p d) n:=by
 unfold disk_bench_count_i1 disk_above_i2
 have key:Ends (forL p 0 (fun i_71 c_73 (m3_65:List (Str × Int)) nx_70 (k_69:List (Str × Int)→Option (Bool × List (Str × Int))) =>
  chk ((decide ((c_73.toNat:Int)=47))=true→(0≤(i_71:Int)∧(i_71:Int)≤(p.length:Int))) <|
  callG (decide ((c_73.toNat:Int)=47)) (disk_bench_count_1_i1 (List.take i_71 p) o0 a m3_65 b c n) (false,m3_65) fun r_75 =>
  bif ((decide ((c_73.toNat:Int)=47)) && (!r_75.1)) then
   some (false,r_75.2)
  else
  nx_70 r_75.2) m (fun m3_65=>some (true,m3_65))) (fun r=>r.2.length≤m.length+200∧∀ d,(alook r.2 d).getD 0=(alook m d).getD 0+up (undB p d) n):=by
  refine forL_ex (fun i r m3=>i+r.length=p.length∧p.drop i=r∧m3.length≤m.length+i∧∀ d,(alook m3 d).getD 0=(alook m d).getD 0+up (undB p d && decide (d.length < i)) n) (fun i s h=>?_) (fun i x r s nx h hnx=>?_) p 0 m ⟨by simp,by simp,by simp,fun d=>by simp [up]⟩
  ·obtain ⟨h1,h2,h3,h4⟩:=h
   simp only [List.length_nil] at h1
   refine ⟨_,rfl,by simp only; omega,fun d=>?_⟩
   simp only
   rw [h4]
   congr 2
   cases hu:undB p d with
   | false=>rfl
   | true=>have:=undB_len hu; simp; omega
  ·obtain ⟨h1,h2,h3,h4⟩:=h
   simp only [List.length_cons] at h1
   have hi:i < p.length:=by omega
   have hx:p[i]=x:=by
    have:=List.drop_eq_getElem_cons hi
    rw [h2] at this
    exact (List.cons.inj this).1.symm
   have hd':p.drop (i+1)=r:=by
    have:=congrArg List.tail h2
    simpa using this
   rw [chk_true (by intro _; omega)]
   cases hc:decide ((x.toNat:Int)=47) with
   | false =>
    rw [callG_false]
    simp only [Bool.false_and,cond_false]
    refine hnx _ ⟨by omega,hd',by omega,fun d=>?_⟩
    rw [h4]
    congr 2
    cases hu:undB p d with
    | false=>rfl
    | true =>
     obtain ⟨j,hj,hj1,rfl⟩:=undB_at.1 hu
     have hji:j ≠ i:=fun e=>by
      subst e
      rw [hx] at hj1
      rw [hj1] at hc
      cases hc
     simp only [Bool.true_and,List.length_take]
     exact decide_eq_decide.2 (by omega)
   | true =>
    have h47:p[i]=47:=by
     rw [hx]
     have h5:x.toNat=47:=by simp only [decide_eq_true_eq] at hc; omega
     exact UInt8.toNat.inj h5
    rw [callG_true]
    unfold disk_bench_count_1_i1
    have hl:=len_aset s (List.take i p) (IntKind.i64.wrap (((alook s (List.take i p)).getD 0)+n))
    have hl':(aset s (List.take i p) (IntKind.i64.wrap (((alook s (List.take i p)).getD 0)+n))).length≤s.length+1:=by split at hl <;> omega
    simp only [letv]
    rw [chk_true (by omega),call_some]
    simp only [Bool.not_true,Bool.and_false,cond_false]
    refine hnx _ ⟨by omega,hd',by omega,fun d=>?_⟩
    rw [alook_aset]
    have hui:undB p (List.take i p)=true:=undB_at.2 ⟨i,hi,h47,rfl⟩
    by_cases e:List.take i p=d
    ·subst e
     rw [if_pos rfl,Option.getD_some,h4]
     have hlen:(List.take i p).length=i:=by simp; omega
     have:=hb (List.take i p)
     rw [hlen,hui]
     simp only [Bool.true_and,Nat.lt_irrefl,decide_false,Nat.lt_succ_self,decide_true,up,cond_true,cond_false]
     rw [wrapS (by omega) (by omega)]; omega
    ·rw [if_neg e,h4]
     congr 2
     cases hu:undB p d with
     | false=>rfl
     | true =>
      obtain ⟨j,hj,hj1,rfl⟩:=undB_at.1 hu
      have hji:j ≠ i:=fun e'=>e (by rw [e'])
      simp only [Bool.true_and,List.length_take]
      exact decide_eq_decide.2 (by omega)
 rw [jp_eq]
 obtain ⟨r,e,h1,h2⟩:=key
 rw [e,call_some]
 exact ⟨_,rfl,h1,h2⟩
theorem above3_eq (p:Str) (o0:List api_Setting) (a:List (Str × api_File)) (m:List (Str × Int)) (b:List (Str × api_Setting)) (c:List (Str × api_Service)) :
  disk_above_i3 p o0 a m b c=some (allI (fun i x=>!(decide ((x.toNat:Int)=47) && (alook a (p.take i)).isSome)) 0 p):=by
 unfold disk_above_i3
 rw [jp_eq]
 have:∀ (l:Str) (i:Nat),p.drop i=l→forL l i (fun i_48 c_50 (s:Unit) nx_47 (k_46:Unit→Option Bool) =>
  chk ((decide ((c_50.toNat:Int)=47))=true→(0≤(i_48:Int)∧(i_48:Int)≤(p.length:Int))) <|
  callG (decide ((c_50.toNat:Int)=47)) (disk_bench_conflict_1_i1 (List.take i_48 p) o0 a m b c) false fun r_52 =>
  bif ((decide ((c_50.toNat:Int)=47)) && (!r_52)) then
   some false
  else
  nx_47 ()) () (fun _=>some true)=some (allI (fun i x=>!(decide ((x.toNat:Int)=47) && (alook a (p.take i)).isSome)) i l):=by
  intro l
  induction l with
  | nil=>intro i _; rfl
  | cons x l ih =>
   intro i hd
   have hi:i < p.length:=by
    rcases Nat.lt_or_ge i p.length with h | h
    ·exact h
    ·rw [List.drop_eq_nil_of_le h] at hd; cases hd
   unfold forL allI
   simp only [ih (i+1) (by have:=congrArg List.tail hd; simpa using this)]
   rw [chk_true (by intro _; omega)]
   simp only [disk_bench_conflict_1_i1,letv,callG_some]
   cases decide ((x.toNat:Int)=47) <;> cases (alook a (List.take i p)).isSome <;> rfl
 exact this p 0 rfl
structure Bn (b:Nat) (m1:List (Str × api_File)) (m2:List (Str × Int)) (m3:List (Str × api_Setting)) (m4:List (Str × api_Service)) (M:api_Machine):Prop where
 n1:(m1.map (·.1)).Nodup
 n3:(m3.map (·.1)).Nodup
 n4:(m4.map (·.1)).Nodup
 k1:∀ k v,alook m1 k=some v→v.Path=k
 k3:∀ k v,alook m3 k=some v→v.Key=k
 k4:∀ k v,alook m4 k=some v→v.Name=k
 e1:toL gF noFile m1=M.Files
 e3:toL (fun _ v=>v) noSet m3=M.Settings
 e4:toL gV noSvc m4=M.Services
 l2:m2.length≤b
 cnt:∀ d,(alook m2 d).getD 0=cntD M.Files d
section
variable {b:Nat} {m1:List (Str × api_File)} {m2:List (Str × Int)} {m3:List (Str × api_Setting)} {m4:List (Str × api_Service)} {M:api_Machine}
theorem Bn.l1 (h:Bn b m1 m2 m3 m4 M):m1.length=M.Files.length:=by rw [← h.e1,toL_len]
theorem Bn.l3 (h:Bn b m1 m2 m3 m4 M):m3.length=M.Settings.length:=by rw [← h.e3,toL_len]
theorem Bn.l4 (h:Bn b m1 m2 m3 m4 M):m4.length=M.Services.length:=by rw [← h.e4,toL_len]
theorem Bn.look1 (h:Bn b m1 m2 m3 m4 M) (k:Str):alook m1 k=lkF M.Files k:=by
 rw [← h.e1]
 refine Eq.trans ?_ (toL_lk (key:=fun x:api_File=>x.Path) (g:=gF) (d:=noFile) h.k1 k).symm
 cases alook m1 k <;> rfl
theorem Bn.look3 (h:Bn b m1 m2 m3 m4 M) (k:Str):alook m3 k=lkS M.Settings k:=by
 rw [← h.e3]
 refine Eq.trans ?_ (toL_lk (key:=fun x:api_Setting=>x.Key) (g:=fun _ v=>v) (d:=noSet) h.k3 k).symm
 cases alook m3 k <;> rfl
theorem Bn.look4 (h:Bn b m1 m2 m3 m4 M) (k:Str):alook m4 k=lkV M.Services k:=by
 rw [← h.e4]
 refine Eq.trans ?_ (toL_lk (key:=fun x:api_Service=>x.Name) (g:=gV) (d:=noSvc) h.k4 k).symm
 cases alook m4 k <;> rfl
theorem Bn.small (h:Bn b m1 m2 m3 m4 M) (hM:Good M) (d:Str):-4611686018427387904≤(alook m2 d).getD 0∧(alook m2 d).getD 0≤4611686018427387904:=by
 rw [h.cnt]
 have:=cntD_le M.Files d
 have:=hM.c2
 omega
theorem Bn.le (h:Bn b m1 m2 m3 m4 M) {b':Nat} (hb:b≤b'):Bn b' m1 m2 m3 m4 M:={ h with l2:=Nat.le_trans h.l2 hb }
theorem D_put (h:Bn b m1 m2 m3 m4 M) (hM:Good M) (hb:b≤137438953472) (f:api_File) (hf:f.Path.length≤200) (o0:List api_Setting) :
  ∃ a c,disk_bench_put_i1 f o0 m1 m2 m3 m4=some (a,c)∧Bn (b+200) a c m3 m4 ⟨M.Facts,ins (·.Path) f M.Files,M.Settings,M.Services⟩:=by
 have h1:=h.l1
 have hc2:=hM.c2
 have hl2:=h.l2
 unfold disk_bench_put_i1
 simp only [letv]
 have hla:=len_aset m1 f.Path f
 have hla':(aset m1 f.Path f).length≤274877906944:=by split at hla <;> omega
 have base:∀ c:List (Str × Int),c.length≤b+200→(∀ d,(alook c d).getD 0=cntD (ins (·.Path) f M.Files) d)→Bn (b+200) (aset m1 f.Path f) c m3 m4 ⟨M.Facts,ins (·.Path) f M.Files,M.Settings,M.Services⟩:=fun c hc hcnt =>
  { h with
   n1:=nodup_aset h.n1 _ _
   k1:=fun k v hv=>by
    rw [alook_aset] at hv
    split at hv
    ·rename_i e; cases hv; exact e
    ·exact h.k1 _ _ hv
   e1:=by rw [← h.e1]; exact toL_aset (key:=fun x:api_File=>x.Path) (g:=gF) h.n1 h.k1 _ _ rfl
   l2:=hc
   cnt:=hcnt }
 rw [h.look1]
 cases hs:(lkF M.Files f.Path).isSome with
 | false =>
  obtain ⟨m',e,q1,q2⟩:=count_run f.Path hf 1 ⟨by omega,by omega⟩ o0 m1 m2 (by omega) (h.small hM) m3 m4
  simp only [Bool.not_false,cond_true]
  rw [e,call_some,chk_true hla']
  refine ⟨_,_,rfl,base _ (by omega) fun d=>?_⟩
  rw [q2,h.cnt,cntD_ins hM.g2,hs]; rfl
 | true =>
  simp only [Bool.not_true,cond_false]
  rw [chk_true hla']
  refine ⟨_,_,rfl,base _ (by omega) fun d=>?_⟩
  rw [h.cnt,cntD_ins hM.g2,hs]
  simp [up]
theorem D_remove (h:Bn b m1 m2 m3 m4 M) (hM:Good M) (hb:b≤137438953472) (p:Str) (hf:p.length≤200) (hp:(lkF M.Files p).isSome=true) (o0:List api_Setting) :
  ∃ a c,disk_bench_remove_i1 p o0 m1 m2 m3 m4=some (a,c)∧Bn (b+200) a c m3 m4 ⟨M.Facts,del (·.Path) p M.Files,M.Settings,M.Services⟩:=by
 have hl2:=h.l2
 unfold disk_bench_remove_i1
 obtain ⟨m',e,q1,q2⟩:=count_run p hf (-1) ⟨by omega,by omega⟩ o0 (adel m1 p) m2 (by omega) (h.small hM) m3 m4
 rw [e,call_some]
 refine ⟨_,_,rfl,{ h with
   n1:=nodup_adel h.n1 _
   k1:=fun k v hv=>by
    rw [alook_adel h.n1] at hv
    split at hv
    ·cases hv
    ·exact h.k1 _ _ hv
   e1:=by rw [← h.e1]; exact toL_adel (key:=fun x:api_File=>x.Path) (g:=gF) h.n1 h.k1 _
   l2:=by omega
   cnt:=fun d=>?_ }⟩
 show _=cntD (del (fun x:api_File=>x.Path) p M.Files) d
 rw [q2,h.cnt,cntD_del hM.g2,hp]
 simp only [Bool.true_and]
 cases undB p d <;> rfl
theorem Bn.put3 (h:Bn b m1 m2 m3 m4 M) (f:api_Setting):Bn (b+200) m1 m2 (aset m3 f.Key f) m4 ⟨M.Facts,M.Files,ins (·.Key) f M.Settings,M.Services⟩ :=
 { h.le (Nat.le_add_right _ _) with
  n3:=nodup_aset h.n3 _ _
  k3:=fun k v hv=>by
   rw [alook_aset] at hv
   split at hv
   ·rename_i e; cases hv; exact e
   ·exact h.k3 _ _ hv
  e3:=by rw [← h.e3]; exact toL_aset (key:=fun x:api_Setting=>x.Key) (g:=fun _ v=>v) h.n3 h.k3 _ _ rfl }
theorem Bn.put4 (h:Bn b m1 m2 m3 m4 M) (f:api_Service):Bn (b+200) m1 m2 m3 (aset m4 f.Name f) ⟨M.Facts,M.Files,M.Settings,ins (·.Name) f M.Services⟩ :=
 { h.le (Nat.le_add_right _ _) with
  n4:=nodup_aset h.n4 _ _
  k4:=fun k v hv=>by
   rw [alook_aset] at hv
   split at hv
   ·rename_i e; cases hv; exact e
   ·exact h.k4 _ _ hv
  e4:=by rw [← h.e4]; exact toL_aset (key:=fun x:api_Service=>x.Name) (g:=gV) h.n4 h.k4 _ _ rfl }
theorem Bn.del3 (h:Bn b m1 m2 m3 m4 M) (k:Str):Bn (b+200) m1 m2 (adel m3 k) m4 ⟨M.Facts,M.Files,del (·.Key) k M.Settings,M.Services⟩ :=
 { h.le (Nat.le_add_right _ _) with
  n3:=nodup_adel h.n3 _
  k3:=fun k v hv=>by
   rw [alook_adel h.n3] at hv
   split at hv
   ·cases hv
   ·exact h.k3 _ _ hv
  e3:=by rw [← h.e3]; exact toL_adel (key:=fun x:api_Setting=>x.Key) (g:=fun _ v=>v) h.n3 h.k3 _ }
theorem Bn.del4 (h:Bn b m1 m2 m3 m4 M) (k:Str):Bn (b+200) m1 m2 m3 (adel m4 k) ⟨M.Facts,M.Files,M.Settings,del (·.Name) k M.Services⟩ :=
 { h.le (Nat.le_add_right _ _) with
  n4:=nodup_adel h.n4 _
  k4:=fun k v hv=>by
   rw [alook_adel h.n4] at hv
   split at hv
   ·cases hv
   ·exact h.k4 _ _ hv
  e4:=by rw [← h.e4]; exact toL_adel (key:=fun x:api_Service=>x.Name) (g:=gV) h.n4 h.k4 _ }
theorem D_conflict (h:Bn b m1 m2 m3 m4 M) (hM:Good M) (p:Str) (o0:List api_Setting):disk_bench_conflict_i1 p o0 m1 m2 m3 m4=some (M.Files.any (clash p)):=by
 unfold disk_bench_conflict_i1
 rw [above3_eq,call_some]
 simp only [letv]
 rw [h.cnt,cntD_pos]
 congr 1
 have h1:(!allI (fun i x=>!(decide ((x.toNat:Int)=47) && (alook m1 (p.take i)).isSome)) 0 p)=M.Files.any fun f=>undB p f.Path:=by
  rw [Bool.eq_iff_iff,Bool.not_eq_true',← Bool.not_eq_true,allI_iff,List.any_eq_true]
  constructor
  ·intro hh
   refine Classical.byContradiction fun hc=>hh fun j hj=>?_
   rw [Nat.zero_add]
   cases hx:decide ((p[j].toNat:Int)=47) with
   | false=>rfl
   | true =>
    have h47:p[j]=47:=by
     have h5:p[j].toNat=47:=by simp only [decide_eq_true_eq] at hx; omega
     exact UInt8.toNat.inj h5
    rw [h.look1]
    cases hl:lkF M.Files (p.take j) with
    | none=>rfl
    | some f =>
     obtain ⟨q1,q2⟩:=lk_some hl
     exact absurd ⟨f,q1,by rw [q2]; exact undB_at.2 ⟨j,hj,h47,rfl⟩⟩ hc
  ·rintro ⟨f,hf,hu⟩ hall
   obtain ⟨j,hj,h47,hd⟩:=undB_at.1 hu
   have:=hall j hj
   have hl:lkF M.Files f.Path=some f:=lk_mem hM.g2 hf
   rw [Nat.zero_add,h47,h.look1,← hd,hl] at this
   cases this
 rw [h1,Bool.eq_iff_iff,Bool.or_eq_true,List.any_eq_true,List.any_eq_true,List.any_eq_true]
 constructor
 ·rintro (⟨f,hf,hu⟩ | ⟨f,hf,hu⟩)
  ·exact ⟨f,hf,by unfold clash; rw [hu,Bool.or_true]⟩
  ·exact ⟨f,hf,by unfold clash; rw [hu]; rfl⟩
 ·rintro ⟨f,hf,hu⟩
  unfold clash at hu
  rw [Bool.or_eq_true] at hu
  rcases hu with hu | hu
  ·exact .inr ⟨f,hf,hu⟩
  ·exact .inl ⟨f,hf,hu⟩
theorem D_do (h:Bn b m1 m2 m3 m4 M) (hM:Good M) (hb:b≤137438953472) (c:api_Change) (hc:SmC c) (o0:List api_Setting) :
  ∃ a1 a2 a3 a4,disk_bench_do_i1 c o0 m1 m2 m3 m4=some ((stepM c M).1,a1,a2,a3,a4)∧Bn (b+200) a1 a2 a3 a4 (stepM c M).2:=by
 have h1:=h.l1
 have h3:=h.l3
 have h4:=h.l4
 have hc1:=hM.c1
 have hc2:=hM.c2
 have hc3:=hM.c3
 have hc4:=hM.c4
 have hst:Bn (b+200) m1 m2 m3 m4 M:=h.le (Nat.le_add_right _ _)
 unfold disk_bench_do_i1 stepM
 rw [D_change_eq c hc,call_some]
 by_cases he:eCh c=0
 ·rw [decide_eq_true he,Bool.not_true,cond_false,cond_false]
  unfold disk_bench_fault_i1 disk_missing_api_File_i1 disk_missing_api_Setting_i1 disk_missing_api_Service_i1
  simp only [jp_eq,letv,h.look1,h.look3,h.look4,h1,h3,h4,D_conflict h hM,call_some]
  have hlF:IntKind.i64.wrap ((M.Files.length:Int)+1)=((M.Files.length+1:Nat):Int):=wrap1 _ (by omega)
  have hlS:IntKind.i64.wrap ((M.Settings.length:Int)+1)=((M.Settings.length+1:Nat):Int):=wrap1 _ (by omega)
  have hlV:IntKind.i64.wrap ((M.Services.length:Int)+1)=((M.Services.length+1:Nat):Int):=wrap1 _ (by omega)
  have hdF:decide ((2000:Int) < ((M.Files.length+1:Nat):Int))=decide (2000≤(M.Files.length:Int)):=decide_eq_decide.2 (by omega)
  have hdS:decide ((2000:Int) < ((M.Settings.length+1:Nat):Int))=decide (2000≤(M.Settings.length:Int)):=decide_eq_decide.2 (by omega)
  have hdV:decide ((100:Int) < ((M.Services.length+1:Nat):Int))=decide (100≤(M.Services.length:Int)):=decide_eq_decide.2 (by omega)
  have hd0:decide ((1:Int) < 0)=false:=rfl
  rcases eCh_kind he with e | e | e | e | e | e
  all_goals simp only [e,kindEqs,decide_true,cond_true,cond_false,hlF,hlS,hlV,hdF,hdS,hdV,hd0]
  ·obtain ⟨a,c',ep,hp⟩:=D_put h hM hb c.File (pathOk_len (eFile_path (eCh_put he e)).1) o0
   rw [ep]
   cases M.Files.any (clash c.File.Path)
   ·cases (lkF M.Files c.File.Path).isSome
    ·cases decide (2000≤(M.Files.length:Int))
     ·exact ⟨_,_,_,_,rfl,hp⟩
     ·exact ⟨_,_,_,_,rfl,hst⟩
    ·exact ⟨_,_,_,_,rfl,hp⟩
   ·exact ⟨_,_,_,_,rfl,hst⟩
  ·have hpo:pathOk c.File.Path=true:=by
    have:=(eCh_zero he).2.1
    unfold eNeed at this
    rw [e] at this
    cases hp:pathOk c.File.Path
    ·rw [hp] at this; cases this
    ·rfl
   cases hs:(lkF M.Files c.File.Path).isSome
   ·exact ⟨_,_,_,_,rfl,hst⟩
   ·obtain ⟨a,c',ep,hp⟩:=D_remove h hM hb c.File.Path (pathOk_len hpo) hs o0
    rw [ep]
    exact ⟨_,_,_,_,rfl,hp⟩
  ·have ha:=len_aset m3 c.Setting.Key c.Setting
   have ha':(aset m3 c.Setting.Key c.Setting).length≤274877906944:=by split at ha <;> omega
   rw [chk_true ha']
   cases (lkS M.Settings c.Setting.Key).isSome
   ·cases decide (2000≤(M.Settings.length:Int))
    ·exact ⟨_,_,_,_,rfl,h.put3 _⟩
    ·exact ⟨_,_,_,_,rfl,hst⟩
   ·exact ⟨_,_,_,_,rfl,h.put3 _⟩
  ·cases (lkS M.Settings c.Setting.Key).isSome
   ·exact ⟨_,_,_,_,rfl,hst⟩
   ·exact ⟨_,_,_,_,rfl,h.del3 _⟩
  ·have ha:=len_aset m4 c.Service.Name c.Service
   have ha':(aset m4 c.Service.Name c.Service).length≤274877906944:=by split at ha <;> omega
   rw [chk_true ha']
   cases (lkV M.Services c.Service.Name).isSome
   ·cases decide (100≤(M.Services.length:Int))
    ·exact ⟨_,_,_,_,rfl,h.put4 _⟩
    ·exact ⟨_,_,_,_,rfl,hst⟩
   ·exact ⟨_,_,_,_,rfl,h.put4 _⟩
  ·cases (lkV M.Services c.Service.Name).isSome
   ·exact ⟨_,_,_,_,rfl,hst⟩
   ·exact ⟨_,_,_,_,rfl,h.del4 _⟩
 ·rw [decide_eq_false he]
  exact ⟨_,_,_,_,rfl,hst⟩
theorem D_machine (h:Bn b m1 m2 m3 m4 M) (hM:Good M):disk_bench_machine_i1 M.Facts m1 m2 m3 m4=some M:=by
 have h1:=h.l1
 have h3:=h.l3
 have h4:=h.l4
 have hc1:=hM.c1
 have hc2:=hM.c2
 have hc3:=hM.c3
 have hc4:=hM.c4
 unfold disk_bench_machine_i1 disk_inOrder_api_File_i1 disk_inOrder_api_Setting_i1 disk_inOrder_api_Service_i1
 rw [clone_set _ (by omega)]
 have e1:maps_Keys_map_string_api_File_string_api_File_i1 m1=some ():=rfl
 have e2:maps_Keys_map_string_api_Setting_string_api_Setting_i1 m3=some ():=rfl
 have e3:maps_Keys_map_string_api_Service_string_api_Service_i1 m4=some ():=rfl
 rw [e1,e2,e3]
 simp only [jp_eq,call_some]
 have f1:=collectLoop (Z:=List api_File) (g:=gF) (d:=noFile) (m:=m1) (k:=some) (fun _ _ _ _ _=>rfl) (by omega)
 have f2:=collectLoop (Z:=List api_Setting) (g:=fun _ v=>v) (d:=noSet) (m:=m3) (k:=some) (fun _ _ _ _ _=>rfl) (by omega)
 have f3:=collectLoop (Z:=List api_Service) (g:=gV) (d:=noSvc) (m:=m4) (k:=some) (fun _ _ _ _ _=>rfl) (by omega)
 rw [h.e1] at f1
 rw [h.e3] at f2
 rw [h.e4] at f3
 refine (congrArg (fun q=>call q _) f1).trans ?_
 rw [call_some]
 refine (congrArg (fun q=>call q _) f2).trans ?_
 rw [call_some]
 refine (congrArg (fun q=>call q _) f3).trans ?_
 rfl
end
theorem benchOf_eq {M:api_Machine} (h:Good M):∃ m1 m2 m3 m4,disk_benchOf M=some (m1,m2,m3,m4,M.Facts)∧Bn 400000 m1 m2 m3 m4 M:=by
 have hc1:=h.c1
 have hc2:=h.c2
 have hc3:=h.c3
 have hc4:=h.c4
 unfold disk_benchOf
 rw [clone_set _ (by omega),call_some]
 simp only [jp_eq]
 suffices hs:Ends (forL M.Files 0 (fun i_198 f_200 (s:List (Str × api_File) × List (Str × Int)) nx_197 (k_196:List (Str × api_File) × List (Str × Int)→Option (List (Str × api_File) × List (Str × Int) × List (Str × api_Setting) × List (Str × api_Service) × List api_Setting)) =>
   match s with
   | (m1_192,m2_193) =>
    call (disk_bench_put_i1 f_200 M.Facts m1_192 m2_193 [] []) fun r_201 =>
    nx_197 (r_201.1,r_201.2)) ([],[]) (fun s=>match s with
   | (m1_117,m2_118) =>
    forL M.Settings 0 (fun i_183 s_185 m3_177 nx_182 k_181 =>
     chk ((aset m3_177 s_185.Key s_185).length≤274877906944) <|
     nx_182 (aset m3_177 s_185.Key s_185)) [] fun m3_136 =>
    forL M.Services 0 (fun i_167 s_169 m4_161 nx_166 k_165 =>
     chk ((aset m4_161 s_169.Name s_169).length≤274877906944) <|
     nx_166 (aset m4_161 s_169.Name s_169)) [] fun m4_154 =>
    some (m1_117,m2_118,m3_136,m4_154,M.Facts))) fun z=>z=(z.1,z.2.1,z.2.2.1,z.2.2.2.1,M.Facts)∧Bn 400000 z.1 z.2.1 z.2.2.1 z.2.2.2.1 M by
  obtain ⟨z,e,h1,h2⟩:=hs
  exact ⟨_,_,_,_,e.trans (congrArg some h1),h2⟩
 refine forL_ex (fun i r s=>∃ a,M.Files=a++r∧a.length=i∧Bn (200 * i) s.1 s.2 [] [] ⟨M.Facts,a,[],[]⟩) (fun i s hi=>?_) (fun i f r s nx hi hnx=>?_) M.Files 0 ([],[]) ⟨[],rfl,rfl,?_⟩
 ·obtain ⟨a,e,hl,hb⟩:=hi
  rw [List.append_nil] at e
  subst e
  obtain ⟨m1,m2⟩:=s
  simp only
  refine ⟨(m1,m2,ofL (·.Key) id M.Settings,ofL (·.Name) id M.Services,M.Facts),?_,rfl,?_⟩
  ·refine (ofLoop (key:=fun x:api_Setting=>x.Key) (w:=id) (fun _ _ _ _ _=>rfl) h.s2 (by omega)).trans ?_
   exact ofLoop (key:=fun x:api_Service=>x.Name) (w:=id) (fun _ _ _ _ _=>rfl) h.v2 (by omega)
  ·refine { hb with n3:=ofL_nodup h.s2,n4:=ofL_nodup h.v2,k3:=fun k v hv=>?_,k4:=fun k v hv=>?_,e3:=toL_ofL h.s2 fun _ _=>rfl,e4:=toL_ofL h.v2 fun _ _=>rfl,l2:=Nat.le_trans hb.l2 (by omega) }
   ·simp only at hv
    rw [ofL_look] at hv
    obtain ⟨x,hx,rfl⟩:=Option.map_eq_some_iff.1 hv
    exact (lk_some hx).2
   ·simp only at hv
    rw [ofL_look] at hv
    obtain ⟨x,hx,rfl⟩:=Option.map_eq_some_iff.1 hv
    exact (lk_some hx).2
 ·obtain ⟨a,e,hl,hb⟩:=hi
  have hlen:=congrArg List.length e
  simp only [List.length_append,List.length_cons] at hlen
  have hsub:∀ x ∈ a,x ∈ M.Files:=fun x hx=>by rw [e]; exact List.mem_append_left _ hx
  have hsrt:Srt (·.Path) (a++f::r):=e ▸ h.g2
  have hsa:Srt (·.Path) a:=(List.pairwise_append.1 hsrt).1
  have hM':Good ⟨M.Facts,a,[],[]⟩:=⟨hc1,by simp only; omega,by simp,by simp,h.f1,h.f2,fun x hx=>h.g1 x (hsub x hx),hsa,fun x hx y hy=>h.g3 x (hsub x hx) y (hsub y hy),by simp,by simp [Srt],by simp,by simp [Srt]⟩
  have hf:f ∈ M.Files:=by rw [e]; simp
  obtain ⟨p,c,ep,hp⟩:=D_put hb hM' (by omega) f (pathOk_len (eFile_path (h.g1 f hf)).1) M.Facts
  obtain ⟨m1,m2⟩:=s
  simp only at ep ⊢
  rw [ep,call_some]
  have hins:ins (·.Path) f a=a++[f]:=by
   unfold ins
   have h1:∀ x ∈ a,x.Path < f.Path:=fun x hx=>(List.pairwise_append.1 hsrt).2.2 x hx f (List.mem_cons_self ..)
   rw [List.filter_eq_self.2 (fun x hx=>by simpa using h1 x hx),List.filter_eq_nil_iff.2 (fun x hx=>by simpa using slt_asymm (h1 x hx))]
  refine hnx _ ⟨a++[f],by rw [e]; simp,by simp [hl],?_⟩
  have hp':=hp
  rw [hins] at hp'
  exact hp'.le (by omega)
 ·exact { n1:=by simp,n3:=by simp,n4:=by simp,k1:=fun k v hv=>(by cases hv),k3:=fun k v hv=>(by cases hv),k4:=fun k v hv=>(by cases hv),e1:=by simp [toL,keysM,sortS],e3:=by simp [toL,keysM,sortS],e4:=by simp [toL,keysM,sortS],l2:=by simp,cnt:=fun d=>rfl }
section
variable {A:Type} {key:A→Str}
end
theorem same_loop {α:Type} (l:List α) (q:α→α→Bool) (hq:∀ x,q x x=true):∀ (r:List α) (i:Nat),l.drop i=r→forL r i (fun i x (_:Unit) nx (_:Unit→Option Bool)=>idx l (i:Int) fun y=>bif !q x y then some false else nx ()) () (fun _=>some true)=some true
 | [],i,_=>rfl
 | x::r,i,hd=>by
  have hi:i < l.length:=by
   rcases Nat.lt_or_ge i l.length with h | h
   ·exact h
   ·rw [List.drop_eq_nil_of_le h] at hd; cases hd
  have hx:l[i]=x:=by
   have:=List.drop_eq_getElem_cons hi
   rw [hd] at this
   exact (List.cons.inj this).1.symm
  have hd':l.drop (i+1)=r:=by
   have:=congrArg List.tail hd
   simpa using this
  unfold forL
  simp only [idx_eq hi,hx,hq,Bool.not_true,cond_false]
  exact same_loop l q hq r (i+1) hd'
theorem same_set (l:List api_Setting):slices_Equal_api_Setting_api_Setting l l=some true:=by
 unfold slices_Equal_api_Setting_api_Setting
 rw [decide_eq_true rfl]
 exact same_loop l (fun a b=>decide (a.Key=b.Key) && decide (a.Value=b.Value)) (fun x=>by simp) l 0 rfl
theorem same_file (l:List api_File):slices_Equal_api_File_api_File l l=some true:=by
 unfold slices_Equal_api_File_api_File
 rw [decide_eq_true rfl]
 exact same_loop l (fun a b=>decide (a.Path=b.Path) && (decide (a.Data=b.Data) && decide (a.Runs=b.Runs))) (fun x=>by simp) l 0 rfl
theorem same_svc (l:List api_Service):slices_Equal_api_Service_api_Service l l=some true:=by
 unfold slices_Equal_api_Service_api_Service
 rw [decide_eq_true rfl]
 exact same_loop l (fun a b=>decide (a.Name=b.Name) && (decide (a.Path=b.Path) && (decide (a.Auto=b.Auto) && decide (a.On=b.On)))) (fun x=>by simp) l 0 rfl
theorem same_mach (m:api_Machine):R_Same m m=some true:=by
 unfold R_Same
 rw [same_set,same_file,same_set,same_svc]
 rfl
def bootS (s:api_Service):api_Service:=⟨s.Name,s.Path,s.Auto,s.Auto⟩
theorem boot_loop {Z:Type} (l:List api_Service) (hl:l.length≤1000) (k:List api_Service→Option Z) {N:Nat} (hN:1001≤N) :
  loopN N (fun (s:Int × List api_Service) nx_29 k_28 =>
  match s with
  | (t9_23,o7_24) =>
   bif decide (t9_23 < (l.length:Int)) then
    chk (0≤t9_23∧t9_23 < (o7_24.length:Int)) <|
    chk (0≤t9_23∧t9_23 < (o7_24.length:Int)) <|
    nx_29 (IntKind.i64.wrap (t9_23+1),List.set o7_24 t9_23.toNat (api_Service.mk ((o7_24.getD t9_23.toNat (api_Service.mk [] [] false false)).Name) ((o7_24.getD t9_23.toNat (api_Service.mk [] [] false false)).Path) ((o7_24.getD t9_23.toNat (api_Service.mk [] [] false false)).Auto) ((o7_24.getD t9_23.toNat (api_Service.mk [] [] false false)).Auto)))
   else
   k_28 (t9_23,o7_24)) (0,l) (fun s=>match s with
  | (t9_23,o7_24)=>k o7_24)=k (l.map bootS):=by
 refine loopN_run (fun s=>∃ i:Nat,s.1=(i:Int)∧i≤l.length∧s.2=(l.take i).map bootS++l.drop i) (fun s=>l.length - s.1.toNat) (fun _=>k (l.map bootS)) ?_ N _ ⟨0,rfl,by omega,by simp⟩ (by simp only; omega)
 rintro ⟨t,o⟩ nx ⟨i,h1,hi,h2⟩ hnx
 obtain rfl:t=i:=h1
 obtain rfl:o=_:=h2
 dsimp only
 by_cases h:i < l.length
 ·have hlen:((l.take i).map bootS++l.drop i).length=l.length:=by simp; omega
  rw [decide_eq_true (by omega),cond_true,hlen,chk_true (by omega),chk_true (by omega),wrap1 i (by omega),Int.toNat_natCast]
  have hg:((l.take i).map bootS++l.drop i).getD i (api_Service.mk [] [] false false)=l[i]:=by
   rw [List.getD_eq_getElem?_getD,List.getElem?_append_right (by simp; omega)]
   simp [h,Nat.min_eq_left (Nat.le_of_lt h)]
  refine hnx _ ⟨i+1,rfl,by omega,?_⟩ (by simp only [Int.toNat_natCast]; omega)
  rw [hg,List.set_append_right _ _ (by simp; omega)]
  have e:i - ((l.take i).map bootS).length=0:=by simp; omega
  rw [e,List.drop_eq_getElem_cons h,List.take_succ_eq_append_getElem h,List.map_append,List.append_assoc]
  rfl
 ·obtain rfl:i=l.length:=by omega
  rw [decide_eq_false (by omega),cond_false,List.take_length,List.drop_length,List.append_nil]
def bootM (m:api_Machine):api_Machine:=⟨m.Facts,m.Files,m.Settings,m.Services.map bootS⟩
theorem clone_ends {α:Type} (l:List α) (hl:l.length≤137438953472):(anyOf (fun b_5:Bool=>b_5=true→l=[]) fun b_5 =>
 bif b_5 then
  some []
 else
 chk (([]++l).length≤274877906944) <|
 some ([]++l))=some l:=by
 refine anyOf_intro ⟨false,fun h=>by cases h⟩ fun b hb=>?_
 cases b with
 | false=>rw [cond_false,chk_true (by simp; omega)]; rfl
 | true=>rw [hb rfl]; rfl
theorem D_boot {M:api_Machine} (h:Good M):disk_boot M=some (bootM M):=by
 have a1:=h.c1
 have a2:=h.c2
 have a3:=h.c3
 have a4:=h.c4
 obtain ⟨N,hN⟩:∃ N,Fuel=N:=⟨_,rfl⟩
 have hF:1099511627776≤N:=hN ▸ fuel_ge
 have hc:disk_Clone_new M=some (M.Facts,M.Files,M.Settings,M.Services,M.Facts,M.Files,M.Settings,M.Services):=by
  unfold disk_Clone_new
  rw [show slices_Clone_api_Setting_api_Setting_new_i2 M.Facts=some M.Facts from clone_ends M.Facts (by omega),show slices_Clone_api_File_api_File_new M.Files=some M.Files from clone_ends M.Files (by omega),show slices_Clone_api_Setting_api_Setting_new_i2 M.Settings=some M.Settings from clone_ends M.Settings (by omega),show slices_Clone_api_Service_api_Service_new M.Services=some M.Services from clone_ends M.Services (by omega)]
  rfl
 unfold disk_boot
 rw [hN,hc,call_some,jp_eq]
 exact boot_loop M.Services (by omega) (fun o=>some (api_Machine.mk M.Facts M.Files M.Settings o)) (by omega)
theorem R_boot {M:api_Machine} (h:Good M):R_Boot M=some (bootM M):=by
 have a4:=h.c4
 obtain ⟨N,hN⟩:∃ N,Fuel=N:=⟨_,rfl⟩
 have hF:1099511627776≤N:=hN ▸ fuel_ge
 unfold R_Boot
 rw [hN,show slices_Clone_api_Service_api_Service_new M.Services=some M.Services from clone_ends M.Services (by omega),call_some,jp_eq]
 exact boot_loop M.Services (by omega) (fun o=>some (api_Machine.mk M.Facts M.Files M.Settings o)) (by omega)
theorem good_boot {M:api_Machine} (h:Good M):Good (bootM M):=by
 refine { h with c4:=by show (M.Services.map bootS).length≤100; rw [List.length_map]; exact h.c4,v1:=fun x hx=>?_,v2:=?_ }
 ·obtain ⟨y,hy,rfl⟩:=List.mem_map.1 hx
  exact h.v1 y hy
 ·show Srt (fun x:api_Service=>x.Name) (M.Services.map bootS)
  unfold Srt
  rw [List.pairwise_map]
  exact h.v2
def halfF (f:api_File):api_File:=⟨f.Path,List.take ((IntKind.i64.wrap (Int.tdiv (f.Data.length:Int) 2)).toNat) f.Data,f.Runs⟩
theorem half_len {n:Nat} (h:n≤65536):IntKind.i64.wrap (Int.tdiv (n:Int) 2)=((n / 2:Nat):Int):=by
 have e:Int.tdiv (n:Int) 2=((n / 2:Nat):Int):=rfl
 rw [e,wrapS (by omega) (by omega)]
theorem eFile_half {f:api_File} (h:eFile f=0):eFile (halfF f)=0:=by
 obtain ⟨h1,h2⟩:=eFile_path h
 unfold eFile halfF
 simp only [h1,List.length_take,Bool.not_true,cond_false]
 rw [decide_eq_false (by omega)]; rfl
theorem good_put {M:api_Machine} (h:Good M) (f:api_File) (he:eFile f=0) (ha:M.Files.any (clash f.Path)=false) (hb:(!(lkF M.Files f.Path).isSome && decide (2000≤(M.Files.length:Int)))=false) :
  Good ⟨M.Facts,ins (·.Path) f M.Files,M.Settings,M.Services⟩:=by
 have hc2:=h.c2
 have hcl:∀ x ∈ M.Files,undB x.Path f.Path=false∧undB f.Path x.Path=false:=fun x hx=>by
  have:=List.any_eq_false.1 ha x hx
  simpa [clash] using this
 refine { h with c2:=?_,g1:=?_,g2:=srt_ins h.g2 _,g3:=?_ }
 ·show (ins (fun x:api_File=>x.Path) f M.Files).length≤2000
  rw [len_ins h.g2]
  simp only [Bool.and_eq_false_iff,Bool.not_eq_false',decide_eq_false_iff_not] at hb
  rcases hb with hb | hb
  ·rw [if_pos hb]; omega
  ·split <;> omega
 ·intro x hx
  rcases mem_ins.1 hx with e | ⟨hx,_⟩
  ·rw [e]; exact he
  ·exact h.g1 x hx
 ·intro x hx y hy
  rcases mem_ins.1 hx with e | ⟨hx,_⟩ <;> rcases mem_ins.1 hy with e' | ⟨hy,_⟩
  ·rw [e,e']; exact clash_irr _
  ·rw [e]; exact (hcl y hy).2
  ·rw [e']; exact (hcl x hx).1
  ·exact h.g3 x hx y hy
theorem step_put1 {M:api_Machine} {c:api_Change} (hk:c.Kind=1) (hs:(stepM c M).1=0):eFile c.File=0∧M.Files.any (clash c.File.Path)=false∧(!(lkF M.Files c.File.Path).isSome && decide (2000≤(M.Files.length:Int)))=false:=by
 unfold stepM at hs
 by_cases he:eCh c=0
 ·rw [decide_eq_true he] at hs
  simp only [hk,kindEqs,decide_true,Bool.not_true,cond_true,cond_false] at hs
  refine ⟨eCh_put he hk,?_,?_⟩
  ·cases ha:M.Files.any (clash c.File.Path)
   ·rfl
   ·rw [ha] at hs; cases hs
  ·cases ha:M.Files.any (clash c.File.Path)
   ·rw [ha] at hs
    cases hb:!(lkF M.Files c.File.Path).isSome && decide (2000≤(M.Files.length:Int))
    ·rfl
    ·rw [hb] at hs; cases hs
   ·rw [ha] at hs; cases hs
 ·rw [decide_eq_false he] at hs
  exact absurd hs he
section
variable {b:Nat} {m1:List (Str × api_File)} {m2:List (Str × Int)} {m3:List (Str × api_Setting)} {m4:List (Str × api_Service)} {M:api_Machine}
theorem D_fault (h:Bn b m1 m2 m3 m4 M) (hM:Good M) (c:api_Change) (he:eCh c=0) (o0:List api_Setting):disk_bench_fault_i1 c o0 m1 m2 m3 m4=some (stepM c M).1:=by
 have h1:=h.l1
 have h3:=h.l3
 have h4:=h.l4
 have hc2:=hM.c2
 have hc3:=hM.c3
 have hc4:=hM.c4
 unfold disk_bench_fault_i1 disk_missing_api_File_i1 disk_missing_api_Setting_i1 disk_missing_api_Service_i1 stepM
 rw [decide_eq_true he,Bool.not_true,cond_false]
 simp only [jp_eq,letv,h.look1,h.look3,h.look4,h1,h3,h4,D_conflict h hM,call_some]
 have hlF:IntKind.i64.wrap ((M.Files.length:Int)+1)=((M.Files.length+1:Nat):Int):=wrap1 _ (by omega)
 have hlS:IntKind.i64.wrap ((M.Settings.length:Int)+1)=((M.Settings.length+1:Nat):Int):=wrap1 _ (by omega)
 have hlV:IntKind.i64.wrap ((M.Services.length:Int)+1)=((M.Services.length+1:Nat):Int):=wrap1 _ (by omega)
 have hdF:decide ((2000:Int) < ((M.Files.length+1:Nat):Int))=decide (2000≤(M.Files.length:Int)):=decide_eq_decide.2 (by omega)
 have hdS:decide ((2000:Int) < ((M.Settings.length+1:Nat):Int))=decide (2000≤(M.Settings.length:Int)):=decide_eq_decide.2 (by omega)
 have hdV:decide ((100:Int) < ((M.Services.length+1:Nat):Int))=decide (100≤(M.Services.length:Int)):=decide_eq_decide.2 (by omega)
 have hd0:decide ((1:Int) < 0)=false:=rfl
 rcases eCh_kind he with e | e | e | e | e | e
 all_goals simp only [e,kindEqs,decide_true,cond_true,cond_false,hlF,hlS,hlV,hdF,hdS,hdV,hd0]
 ·cases M.Files.any (clash c.File.Path)
  ·cases (lkF M.Files c.File.Path).isSome
   ·cases decide (2000≤(M.Files.length:Int)) <;> rfl
   ·rfl
  ·rfl
 ·cases (lkF M.Files c.File.Path).isSome <;> rfl
 ·cases (lkS M.Settings c.Setting.Key).isSome
  ·cases decide (2000≤(M.Settings.length:Int)) <;> rfl
  ·rfl
 ·cases (lkS M.Settings c.Setting.Key).isSome <;> rfl
 ·cases (lkV M.Services c.Service.Name).isSome
  ·cases decide (100≤(M.Services.length:Int)) <;> rfl
  ·rfl
 ·cases (lkV M.Services c.Service.Name).isSome <;> rfl
end
structure Dk where
 M:api_Machine
 off:Bool
 cut:Bool
 after:Int
 torn:Bool
 writes:Int
def stepD (c:api_Change) (d:Dk):Int × Dk :=
 bif d.off then (12,d) else
 bif !decide ((stepM c d.M).1=0) then ((stepM c d.M).1,d) else
 bif d.cut && decide (d.after=0) then
  (bif d.torn && decide (c.Kind=1) then (18,⟨⟨d.M.Facts,ins (·.Path) (halfF c.File) d.M.Files,d.M.Settings,d.M.Services⟩,true,false,d.after,d.torn,IntKind.i64.wrap (d.writes+1)⟩)
   else (18,⟨d.M,true,false,d.after,d.torn,d.writes⟩)) else
 (0,⟨(stepM c d.M).2,d.off,d.cut,bif d.cut then IntKind.i64.wrap (d.after - 1) else d.after,d.torn,IntKind.i64.wrap (d.writes+1)⟩)
def cutD (after:Int) (torn:Bool) (d:Dk):Int × Dk :=
 bif decide (after < 0) || decide (1000000 < after) then (3,d) else bif d.off then (12,d) else (0,⟨d.M,d.off,true,after,torn,d.writes⟩)
def onD (d:Dk):Int × Dk:=bif !d.off then (12,d) else (0,⟨bootM d.M,false,false,d.after,d.torn,d.writes⟩)
structure Pd (b:Nat) (m1:List (Str × api_File)) (m2:List (Str × Int)) (m3:List (Str × api_Setting)) (m4:List (Str × api_Service)) (fs:List api_Setting) (off cut:Bool) (after:Int) (torn:Bool) (writes:Int) (d:Dk):Prop where
 good:Good d.M
 bn:Bn b m1 m2 m3 m4 d.M
 fs:fs=d.M.Facts
 off:off=d.off
 cut:cut=d.cut
 after:d.cut=true→after=d.after
 torn:d.cut=true→torn=d.torn
 writes:writes=d.writes
structure Rd_ (m1:List (Str × api_File)) (m2:List (Str × Str)) (m3:List (Str × api_Service)) (fs:List api_Setting) (off:Bool) (after:Int) (torn armed:Bool) (writes:Int) (d:Dk):Prop where
 good:Good d.M
 wr:Wr m1 m2 m3 d.M
 fs:fs=d.M.Facts
 off:off=d.off
 cut:armed=d.cut
 after:d.cut=true→after=d.after
 torn:d.cut=true→torn=d.torn
 writes:writes=d.writes
 oc:d.off=true→d.cut=false
theorem stepM_err {c:api_Change} {M:api_Machine} (h:(stepM c M).1 ≠ 0):(stepM c M).2=M:=by
 unfold stepM at h ⊢
 by_cases he:eCh c=0
 ·rw [decide_eq_true he] at h ⊢
  simp only [Bool.not_true,cond_false] at h ⊢
  rcases eCh_kind he with e | e | e | e | e | e
  all_goals simp only [e,kindEqs,decide_true,cond_true,cond_false] at h ⊢
  ·cases ha:M.Files.any (clash c.File.Path)
   ·rw [ha] at h
    cases hb:!(lkF M.Files c.File.Path).isSome && decide (2000≤(M.Files.length:Int))
    ·rw [hb] at h; exact absurd rfl h
    ·rfl
   ·rfl
  ·cases hb:!(lkF M.Files c.File.Path).isSome
   ·rw [hb] at h; exact absurd rfl h
   ·rfl
  ·cases hb:!(lkS M.Settings c.Setting.Key).isSome && decide (2000≤(M.Settings.length:Int))
   ·rw [hb] at h; exact absurd rfl h
   ·rfl
  ·cases hb:!(lkS M.Settings c.Setting.Key).isSome
   ·rw [hb] at h; exact absurd rfl h
   ·rfl
  ·cases hb:!(lkV M.Services c.Service.Name).isSome && decide (100≤(M.Services.length:Int))
   ·rw [hb] at h; exact absurd rfl h
   ·rfl
  ·cases hb:!(lkV M.Services c.Service.Name).isSome
   ·rw [hb] at h; exact absurd rfl h
   ·rfl
 ·rw [decide_eq_false he]; rfl
theorem stepM_eCh {c:api_Change} {M:api_Machine} (h:eCh c ≠ 0):stepM c M=(eCh c,M):=by
 unfold stepM
 rw [decide_eq_false h]; rfl
section
variable {b:Nat} {m1:List (Str × api_File)} {m2:List (Str × Int)} {m3:List (Str × api_Setting)} {m4:List (Str × api_Service)} {fs:List api_Setting} {off cut torn:Bool} {after writes:Int} {d:Dk}
theorem P_Do (h:Pd b m1 m2 m3 m4 fs off cut after torn writes d) (hb:b≤137438953472) (c:api_Change) (hc:SmC c) :
  ∃ r,disk_Disk_Do_i1 c off cut after torn writes fs m1 m2 m3 m4=some r∧r.1=(stepD c d).1 ∧
   Pd (b+200) r.2.2.2.2.2.1 r.2.2.2.2.2.2.1 r.2.2.2.2.2.2.2.1 r.2.2.2.2.2.2.2.2 fs r.2.1 r.2.2.1 r.2.2.2.2.1 torn r.2.2.2.1 (stepD c d).2:=by
 have hle:=h.bn.le (Nat.le_add_right b 200)
 have h0:Pd (b+200) m1 m2 m3 m4 fs off cut after torn writes d:={ h with bn:=hle }
 obtain ⟨hg,hbn,hfs,hoff,hcut,haft,htorn,hw⟩:=h
 subst hfs; subst hoff; subst hcut; subst hw
 unfold disk_Disk_Do_i1 stepD
 cases hof:d.off with
 | true=>exact ⟨_,rfl,rfl,by rw [hof] at h0; exact h0⟩
 | false =>
  rw [hof] at h0
  simp only [cond_false]
  by_cases hca:d.cut=true∧d.after=0
  ·obtain ⟨hc1,hc2⟩:=hca
   have ea:=haft hc1
   have et:=htorn hc1
   subst ea; subst et
   rw [hc1,hc2,decide_eq_true rfl,Bool.and_self,cond_true,cond_true]
   rw [hc1,hc2] at h0
   unfold disk_Disk_lose_i1
   rw [D_change_eq c hc,call_some]
   by_cases he:eCh c=0
   ·rw [decide_eq_true he,Bool.not_true,cond_false,D_fault hbn hg c he,call_some]
    by_cases hs:(stepM c d.M).1=0
    ·rw [decide_eq_true hs,Bool.not_true,cond_false,cond_false]
     cases ht:d.torn && decide (c.Kind=1) with
     | false =>
      rw [cond_false,cond_false]
      exact ⟨_,rfl,rfl,hg,hle,rfl,rfl,rfl,fun e=>(by cases e),fun e=>(by cases e),rfl⟩
     | true =>
      rw [cond_true,cond_true]
      simp only [Bool.and_eq_true,decide_eq_true_eq] at ht
      obtain ⟨p1,p2,p3⟩:=step_put1 ht.2 hs
      have pl:=(eFile_path p1).2
      obtain ⟨a,c',ep,hp⟩:=D_put hbn hg hb (halfF c.File) (pathOk_len (eFile_path p1).1) d.M.Facts
      rw [chk_true (by decide),chk_true (by rw [half_len pl]; omega)]
      have ep':disk_bench_put_i1 (api_File.mk c.File.Path (List.take ((IntKind.i64.wrap (Int.tdiv (c.File.Data.length:Int) 2)).toNat) c.File.Data) c.File.Runs) d.M.Facts m1 m2 m3 m4=some (a,c'):=ep
      rw [ep',call_some,call_some]
      exact ⟨_,rfl,rfl,good_put hg (halfF c.File) (eFile_half p1) p2 p3,hp,rfl,rfl,rfl,fun e=>(by cases e),fun e=>(by cases e),rfl⟩
    ·rw [decide_eq_false hs,Bool.not_false,cond_true,cond_true,call_some]
     exact ⟨_,rfl,rfl,h0⟩
   ·rw [decide_eq_false he,Bool.not_false,cond_true,call_some,stepM_eCh he,decide_eq_false he,Bool.not_false,cond_true]
    exact ⟨_,rfl,rfl,h0⟩
  ·have hif:(d.cut && decide (after=0))=false:=by
    cases hq:d.cut with
    | false=>rfl
    | true =>
     rw [haft hq,Bool.true_and]
     exact decide_eq_false fun e=>hca ⟨hq,e⟩
   have hif2:(d.cut && decide (d.after=0))=false:=by
    cases hq:d.cut with
    | false=>rfl
    | true =>
     rw [Bool.true_and]
     exact decide_eq_false fun e=>hca ⟨hq,e⟩
   rw [hif,hif2,cond_false,cond_false]
   obtain ⟨a1,a2,a3,a4,e,hw'⟩:=D_do hbn hg hb c hc d.M.Facts
   rw [e,call_some]
   by_cases hs:(stepM c d.M).1=0
   ·rw [decide_eq_true hs,Bool.not_true,cond_false,cond_false]
    cases hq:d.cut with
    | true =>
     rw [cond_true,cond_true]
     exact ⟨_,rfl,rfl,good_step hg c,hw',(step_facts c d.M).symm,rfl,rfl,fun _=>by rw [haft hq],fun _=>htorn hq,rfl⟩
    | false =>
     rw [cond_false,cond_false]
     exact ⟨_,rfl,rfl,good_step hg c,hw',(step_facts c d.M).symm,rfl,rfl,fun e=>(by cases e),fun e=>(by cases e),rfl⟩
   ·rw [decide_eq_false hs,Bool.not_false,cond_true,cond_true]
    rw [stepM_err hs] at hw'
    exact ⟨_,rfl,rfl,hg,hw',rfl,hof.symm,rfl,haft,htorn,rfl⟩
theorem P_Cut (h:Pd b m1 m2 m3 m4 fs off cut after torn writes d) (a:Int) (t:Bool) :
  ∃ r,disk_Disk_Cut_i1 a t off cut after torn writes fs m1 m2 m3 m4=some r∧r.1=(cutD a t d).1∧Pd b m1 m2 m3 m4 fs off r.2.1 r.2.2.1 r.2.2.2 writes (cutD a t d).2:=by
 have h0:=h
 obtain ⟨hg,hbn,hfs,hoff,hcut,haft,htorn,hw⟩:=h
 unfold disk_Disk_Cut_i1 cutD
 cases decide (a < 0) || decide (1000000 < a) with
 | true=>exact ⟨_,rfl,rfl,h0⟩
 | false =>
  rw [cond_false,cond_false,hoff]
  cases hof:d.off with
  | true=>rw [hoff,hof] at h0; exact ⟨_,rfl,rfl,h0⟩
  | false=>exact ⟨_,rfl,rfl,hg,hbn,hfs,rfl,rfl,fun _=>rfl,fun _=>rfl,hw⟩
theorem P_On (h:Pd b m1 m2 m3 m4 fs off cut after torn writes d) (hb:400000≤b) :
  ∃ r,disk_Disk_On_i1 off cut after torn writes fs m1 m2 m3 m4=some r∧r.1=(onD d).1∧Pd b r.2.2.2.2.1 r.2.2.2.2.2.1 r.2.2.2.2.2.2.1 r.2.2.2.2.2.2.2 r.2.2.2.1 r.2.1 r.2.2.1 after torn writes (onD d).2:=by
 have h0:=h
 obtain ⟨hg,hbn,hfs,hoff,hcut,haft,htorn,hw⟩:=h
 subst hfs; subst hoff; subst hcut; subst hw
 unfold disk_Disk_On_i1 onD
 cases hof:d.off with
 | false=>rw [hof] at h0; exact ⟨_,rfl,rfl,h0⟩
 | true =>
  simp only [Bool.not_true,cond_false]
  rw [D_machine hbn hg,call_some,D_boot hg,call_some]
  obtain ⟨n1,n2,n3,n4,e,hn⟩:=benchOf_eq (good_boot hg)
  rw [e,call_some]
  exact ⟨_,rfl,rfl,good_boot hg,hn.le hb,rfl,rfl,rfl,fun e=>(by cases e),fun e=>(by cases e),rfl⟩
theorem P_Machine (h:Pd b m1 m2 m3 m4 fs off cut after torn writes d):disk_Disk_Machine_i1 off cut after torn writes fs m1 m2 m3 m4=some (bif d.off then (noMach,12) else (d.M,0)):=by
 unfold disk_Disk_Machine_i1
 rw [h.off,h.fs,D_machine h.bn h.good,call_some]
 exact condS _ _ _
theorem P_Peek (h:Pd b m1 m2 m3 m4 fs off cut after torn writes d):disk_Disk_Peek_i1 off cut after torn writes fs m1 m2 m3 m4=some d.M:=by
 unfold disk_Disk_Peek_i1
 rw [h.fs,D_machine h.bn h.good,call_some]
end
section
variable {m1:List (Str × api_File)} {m2:List (Str × Str)} {m3:List (Str × api_Service)} {fs:List api_Setting} {off armed torn:Bool} {after writes:Int} {d:Dk}
theorem Q_Do (h:Rd_ m1 m2 m3 fs off after torn armed writes d) (c:api_Change) (hc:SmC c) :
  ∃ r,R_Disk_Do_i1 c off after torn armed writes fs m1 m2 m3=some r∧r.1=(stepD c d).1 ∧
   Rd_ r.2.2.2.2.2.2.1 r.2.2.2.2.2.2.2.1 r.2.2.2.2.2.2.2.2 r.2.2.2.2.2.1 r.2.1 r.2.2.2.2.1 torn r.2.2.1 r.2.2.2.1 (stepD c d).2:=by
 have h0:=h
 obtain ⟨hg,hwr,hfs,hoff,hcut,haft,htorn,hw,hoc⟩:=h
 subst hfs; subst hoff; subst hcut; subst hw
 have hc2:=hg.c2
 unfold R_Disk_Do_i1 stepD
 cases hof:d.off with
 | true=>exact ⟨_,rfl,rfl,by rw [hof] at h0; exact h0⟩
 | false =>
  rw [hof] at h0
  simp only [cond_false]
  rw [machine_eq hwr hg,call_some]
  obtain ⟨a,b,e',e,hw'⟩:=do_eq hwr hg c hc d.M.Facts
  rw [e,call_some]
  by_cases hs:(stepM c d.M).1=0
  ·rw [decide_eq_true hs,Bool.not_true,cond_false,cond_false]
   by_cases hca:d.cut=true∧d.after=0
   ·obtain ⟨hc1,hc2'⟩:=hca
    have ea:=haft hc1
    have et:=htorn hc1
    subst ea; subst et
    rw [hc1,hc2',decide_eq_true rfl,Bool.and_self,cond_true,cond_true]
    obtain ⟨n1,n2,n3,en,hn⟩:=worldOf_eq hg
    rw [en,call_some]
    cases ht:d.torn && decide (c.Kind=1) with
    | false =>
     rw [cond_false,cond_false]
     exact ⟨_,rfl,rfl,hg,hn,rfl,rfl,rfl,fun e=>(by cases e),fun e=>(by cases e),rfl,fun _=>rfl⟩
    | true =>
     rw [cond_true,cond_true]
     simp only [Bool.and_eq_true,decide_eq_true_eq] at ht
     obtain ⟨p1,p2,p3⟩:=step_put1 ht.2 hs
     have pl:=(eFile_path p1).2
     have hl:=hn.l1
     have hla:=len_aset n1 c.File.Path (halfF c.File)
     have hla':(aset n1 c.File.Path (halfF c.File)).length≤274877906944:=by split at hla <;> omega
     rw [chk_true (by decide),chk_true (by rw [half_len pl]; omega),chk_true (by exact hla')]
     exact ⟨_,rfl,rfl,good_put hg (halfF c.File) (eFile_half p1) p2 p3,hn.put1 (halfF c.File),rfl,rfl,rfl,fun e=>(by cases e),fun e=>(by cases e),rfl,fun _=>rfl⟩
   ·have hif:(d.cut && decide (after=0))=false:=by
     cases hq:d.cut with
     | false=>rfl
     | true =>
      rw [haft hq,Bool.true_and]
      exact decide_eq_false fun e=>hca ⟨hq,e⟩
    have hif2:(d.cut && decide (d.after=0))=false:=by
     cases hq:d.cut with
     | false=>rfl
     | true =>
      rw [Bool.true_and]
      exact decide_eq_false fun e=>hca ⟨hq,e⟩
    rw [hif,hif2,cond_false,cond_false]
    refine ⟨_,rfl,rfl,good_step hg c,hw',(step_facts c d.M).symm,rfl,rfl,fun hq=>?_,htorn,rfl,fun e=>(by cases e)⟩
    have hq':d.cut=true:=hq
    simp only [hq',cond_true]
    rw [haft hq']
  ·rw [decide_eq_false hs,Bool.not_false,cond_true,cond_true]
   rw [stepM_err hs] at hw'
   exact ⟨_,rfl,rfl,hg,hw',rfl,hof.symm,rfl,haft,htorn,rfl,hoc⟩
theorem Q_Cut (h:Rd_ m1 m2 m3 fs off after torn armed writes d) (a:Int) (t:Bool) :
  ∃ r,R_Disk_Cut_i1 a t off after torn armed writes fs m1 m2 m3=some r∧r.1=(cutD a t d).1∧Rd_ m1 m2 m3 fs off r.2.1 r.2.2.1 r.2.2.2 writes (cutD a t d).2:=by
 have h0:=h
 obtain ⟨hg,hwr,hfs,hoff,hcut,haft,htorn,hw,hoc⟩:=h
 unfold R_Disk_Cut_i1 cutD
 cases decide (a < 0) || decide (1000000 < a) with
 | true=>exact ⟨_,rfl,rfl,h0⟩
 | false =>
  rw [cond_false,cond_false,hoff]
  cases hof:d.off with
  | true=>rw [hoff,hof] at h0; exact ⟨_,rfl,rfl,h0⟩
  | false=>exact ⟨_,rfl,rfl,hg,hwr,hfs,rfl,rfl,fun _=>rfl,fun _=>rfl,hw,fun e=>(by cases e)⟩
theorem Q_On (h:Rd_ m1 m2 m3 fs off after torn armed writes d) :
  ∃ r,R_Disk_On_i1 off after torn armed writes fs m1 m2 m3=some r∧r.1=(onD d).1∧Rd_ r.2.2.2.1 r.2.2.2.2.1 r.2.2.2.2.2 r.2.2.1 r.2.1 after torn armed writes (onD d).2:=by
 have h0:=h
 obtain ⟨hg,hwr,hfs,hoff,hcut,haft,htorn,hw,hoc⟩:=h
 subst hfs; subst hoff; subst hcut; subst hw
 unfold R_Disk_On_i1 onD
 cases hof:d.off with
 | false=>rw [hof] at h0; exact ⟨_,rfl,rfl,h0⟩
 | true =>
  simp only [Bool.not_true,cond_false]
  rw [machine_eq hwr hg,call_some,R_boot hg,call_some]
  obtain ⟨n1,n2,n3,e,hn⟩:=worldOf_eq (good_boot hg)
  rw [e,call_some]
  exact ⟨_,rfl,rfl,good_boot hg,hn,rfl,rfl,hoc hof,fun e=>(by cases e),fun e=>(by cases e),rfl,fun e=>(by cases e)⟩
theorem Q_Machine (h:Rd_ m1 m2 m3 fs off after torn armed writes d):R_Disk_Machine_i1 off after torn armed writes fs m1 m2 m3=some (bif d.off then (noMach,12) else (d.M,0)):=by
 unfold R_Disk_Machine_i1
 rw [h.off,h.fs,machine_eq h.wr h.good,call_some]
 exact condS _ _ _
theorem Q_Peek (h:Rd_ m1 m2 m3 fs off after torn armed writes d):R_Disk_Peek_i1 off after torn armed writes fs m1 m2 m3=some d.M:=by
 unfold R_Disk_Peek_i1
 rw [h.fs,machine_eq h.wr h.good,call_some]
end
theorem Pd.le {b b':Nat} {m1:List (Str × api_File)} {m2:List (Str × Int)} {m3:List (Str × api_Setting)} {m4:List (Str × api_Service)} {fs:List api_Setting} {off cut torn:Bool} {after writes:Int} {d:Dk}
  (h:Pd b m1 m2 m3 m4 fs off cut after torn writes d) (hb:b≤b'):Pd b' m1 m2 m3 m4 fs off cut after torn writes d:={ h with bn:=h.bn.le hb }
theorem jp_done {S Z:Type} {F:S→Option Z} {m:(S→Option Z)→Option Z} {v:Z} (hF:∀ s,F s=some v) (hm:∀ k,(∀ s,k s=some v)→m k=some v):jp F m=some v:=hm F hF
theorem jp_inv {S Z:Type} {F:S→Option Z} {m:(S→Option Z)→Option Z} {v:Z} (J:S→Prop) (hF:∀ s,J s→F s=some v) (hm:∀ k,(∀ s,J s→k s=some v)→m k=some v):jp F m=some v:=hm F hF
theorem NewDisk_nil {m:api_Machine} (hm:Fit m) (h:checkE m ≠ 0):disk_NewDisk_nil m=some (checkE m):=by
 unfold disk_NewDisk_nil
 rw [disk_Check_eq m hm,call_some,decide_eq_false h]; rfl
def newD (M:api_Machine):Dk:=⟨M,false,false,0,false,0⟩
theorem P_New {M:api_Machine} (hg:Good M):∃ m1 m2 m3 m4,disk_NewDisk_i2 M=some (0,M.Facts,M.Files,M.Settings,M.Services,m1,m2,m3,m4,M.Facts,false,false,0,false,0)∧Pd 400000 m1 m2 m3 m4 M.Facts false false 0 false 0 (newD M):=by
 obtain ⟨m1,m2,m3,m4,e,h⟩:=benchOf_eq hg
 unfold disk_NewDisk_i2
 rw [disk_Check_eq M hg.fit,call_some,(good_iff M).2 hg,decide_eq_true rfl,Bool.not_true,cond_false,e,call_some]
 exact ⟨_,_,_,_,rfl,hg,h,rfl,rfl,rfl,fun _=>rfl,fun _=>rfl,rfl⟩
theorem Q_New {M:api_Machine} (hg:Good M):∃ m1 m2 m3,R_NewDisk M=some (M.Facts,M.Files,M.Settings,M.Services,m1,m2,m3,M.Facts,false,0,false,false,0)∧Rd_ m1 m2 m3 M.Facts false 0 false false 0 (newD M):=by
 obtain ⟨m1,m2,m3,e,h⟩:=worldOf_eq hg
 unfold R_NewDisk
 rw [e,call_some]
 exact ⟨_,_,_,rfl,hg,h,rfl,rfl,rfl,fun _=>rfl,fun _=>rfl,rfl,fun _=>rfl⟩
set_option maxRecDepth 100000 in
theorem law_dm (m:api_Machine) (l:List outlaw1_Act) (hm:Fit m) (hl:∀ a ∈ l,SmC a.Change) (hn:l.length≤134217728):Law_DisksMatch m l=some true:=by
 unfold Law_DisksMatch
 rw [landed_eq,call_some,Bool.not_true,cond_false]
 refine jp_done (fun _=>?_) fun k hk=>?_
 rotate_left
 ·rw [R_Check_eq m hm,call_some]
  by_cases hc:checkE m=0
  ·rw [decide_eq_true hc,Bool.not_true,cond_false]
   exact hk ()
  ·rw [decide_eq_false hc,Bool.not_false,cond_true,NewDisk_nil hm hc,call_some,decide_eq_true rfl]
   exact hk ()
 obtain ⟨M,hM,hF⟩:=fit_ends m hm
 have hg:=hF.good
 obtain ⟨p1,p2,p3,p4,ep,hp⟩:=P_New hg
 obtain ⟨q1,q2,q3,eq,hq⟩:=Q_New hg
 rw [hM,call_some,ep,call_some,decide_eq_true rfl,Bool.not_true,cond_false,eq,call_some]
 refine jp_done (fun _=>rfl) fun k hk=>?_
 rw [chk_true (by omega)]
 refine forL_run (fun i l s=>(∀ a ∈ l,SmC a.Change)∧i+l.length≤30∧∃ d,Pd (400000+200 * i) s.1 s.2.1 s.2.2.1 s.2.2.2.1 s.2.2.2.2.1 s.2.2.2.2.2.1 s.2.2.2.2.2.2.1 s.2.2.2.2.2.2.2.1 s.2.2.2.2.2.2.2.2.1 s.2.2.2.2.2.2.2.2.2.1 d ∧
   Rd_ s.2.2.2.2.2.2.2.2.2.2.1 s.2.2.2.2.2.2.2.2.2.2.2.1 s.2.2.2.2.2.2.2.2.2.2.2.2.1 s.2.2.2.2.2.2.2.2.2.2.2.2.2.1 s.2.2.2.2.2.2.2.2.2.2.2.2.2.2.1 s.2.2.2.2.2.2.2.2.2.2.2.2.2.2.2.1 s.2.2.2.2.2.2.2.2.2.2.2.2.2.2.2.2.1 s.2.2.2.2.2.2.2.2.2.2.2.2.2.2.2.2.2.1 s.2.2.2.2.2.2.2.2.2.2.2.2.2.2.2.2.2.2 d) (fun _ _ _=>some true) ?_ ?_ _ 0 _ ?_
 ·rintro i ⟨x1,x2,x3,x4,x5,x6,x7,x8,x9,x10,y1,y2,y3,y4,y5,y6,y7,y8,y9⟩ _
  exact hk ()
 ·rintro i a l ⟨x1,x2,x3,x4,x5,x6,x7,x8,x9,x10,y1,y2,y3,y4,y5,y6,y7,y8,y9⟩ nx ⟨hs,hi,d,hP,hQ⟩ hnx
  simp only at hP hQ ⊢
  simp only [List.length_cons] at hi
  refine jp_inv (fun s=>s.1=true∧∃ d,Pd (400000+200 * (i+1)) s.2.1 s.2.2.1 s.2.2.2.1 s.2.2.2.2.1 s.2.2.2.2.2.1 s.2.2.2.2.2.2.1 s.2.2.2.2.2.2.2.1 s.2.2.2.2.2.2.2.2.1 s.2.2.2.2.2.2.2.2.2.1 s.2.2.2.2.2.2.2.2.2.2.1 d ∧
   Rd_ s.2.2.2.2.2.2.2.2.2.2.2.1 s.2.2.2.2.2.2.2.2.2.2.2.2.1 s.2.2.2.2.2.2.2.2.2.2.2.2.2.1 s.2.2.2.2.2.2.2.2.2.2.2.2.2.2.1 s.2.2.2.2.2.2.2.2.2.2.2.2.2.2.2.1 s.2.2.2.2.2.2.2.2.2.2.2.2.2.2.2.2.1 s.2.2.2.2.2.2.2.2.2.2.2.2.2.2.2.2.2.1 s.2.2.2.2.2.2.2.2.2.2.2.2.2.2.2.2.2.2.1 s.2.2.2.2.2.2.2.2.2.2.2.2.2.2.2.2.2.2.2 d) ?_ ?_
  ·rintro ⟨ok,x1,x2,x3,x4,x5,x6,x7,x8,x9,x10,y1,y2,y3,y4,y5,y6,y7,y8,y9⟩ ⟨h1,d,hP,hQ⟩
   simp only at h1 hP hQ ⊢
   subst h1
   rw [P_Machine hP,call_some,Q_Machine hQ,call_some]
   generalize (bif d.off then ((noMach,12):api_Machine × Int) else (d.M,0))=z
   rw [same_mach,callG_some,P_Peek hP,callG_some,Q_Peek hQ,callG_some]
   have h3:x10=y9:=hP.writes.trans hQ.writes.symm
   subst h3
   simp only [decide_true,Bool.not_true,Bool.not_false,Bool.or_self,cond_true,cond_false,same_mach,callG_some,disk_Disk_Writes_i1,R_Disk_Writes_i1,letv]
   exact hnx _ ⟨fun x hx=>hs x (List.mem_cons_of_mem _ hx),by omega,d,hP,hQ⟩
  ·intro k hk
   have ha:=hs a (List.mem_cons_self ..)
   by_cases k0:a.Kind=0
   ·rw [decide_eq_true k0,cond_true]
    obtain ⟨r,e,h1,h2⟩:=P_Do hP (by omega) a.Change ha
    obtain ⟨r',e',h1',h2'⟩:=Q_Do hQ a.Change ha
    rw [e,call_some,e',call_some]
    exact hk _ ⟨by simp only; rw [h1,h1',decide_eq_true rfl],_,h2,h2'⟩
   rw [decide_eq_false k0,cond_false]
   by_cases k1:a.Kind=1
   ·rw [decide_eq_true k1,cond_true]
    obtain ⟨r,e,h1,h2⟩:=P_Cut hP a.After a.Torn
    obtain ⟨r',e',h1',h2'⟩:=Q_Cut hQ a.After a.Torn
    rw [e,call_some,e',call_some]
    exact hk _ ⟨by simp only; rw [h1,h1',decide_eq_true rfl],_,h2.le (by omega),h2'⟩
   rw [decide_eq_false k1,cond_false]
   by_cases k2:a.Kind=2
   ·rw [decide_eq_true k2,cond_true]
    obtain ⟨r,e,h1,h2⟩:=P_On hP (by omega)
    obtain ⟨r',e',h1',h2'⟩:=Q_On hQ
    rw [e,call_some,e',call_some]
    exact hk _ ⟨by simp only; rw [h1,h1',decide_eq_true rfl],_,h2.le (by omega),h2'⟩
   rw [decide_eq_false k2,cond_false]
   exact hk _ ⟨rfl,_,hP.le (by omega),hQ⟩
 ·refine ⟨fun a ha=>hl a (List.mem_of_mem_take ha),?_,newD M,hp,hq⟩
  rw [List.length_take]
  omega
end Go.Md
