/- Plain lemmas on the models: the law's model answers true. -/
import Derived.Test.YtmnohdgjkcjdeaaGreatDoorLpMd
set_option linter.unusedSimpArgs false
set_option linter.unusedVariables false
namespace Go.Md
open Go.Vc
section
variable {Z A S α:Type}
theorem zd (x:A) (k:A→Option Z):call (some x) k=k x:=rfl
theorem zag (g:Bool) (x d:A) (k:A→Option Z):callG g (some x) d k=k (bif g then x else d):=by cases g <;> rfl
theorem callG_true (a:Option A) (d:A) (k:A→Option Z):callG true a d k=call a k:=rfl
theorem zgv (a:Option A) (d:A) (k:A→Option Z):callG false a d k=k d:=rfl
theorem zg {p:Prop} [Decidable p] (h:p) (m:Option Z):chk p m=m:=if_pos h
theorem zaY (F:S→Option Z) (m:(S→Option Z)→Option Z):jp F m=m F:=rfl
theorem zcG {s:Str} {i:Nat} (h:i < s.length) (k:Int→Option Z):zd1 s i k=k (s[i].toNat:Int):=by
 unfold zd1
 simp [h]
theorem za5 {l:List α} {i:Nat} (h:i < l.length) (k:α→Option Z):idx l i k=k l[i]:=by
 unfold idx
 simp [h]
theorem zcH {f:Nat→α→Unit→(Unit→Option Z)→(Unit→Option Z)→Option Z} {z:Z} (q:α→Bool) (hf:∀ i x nx k,f i x () nx k=bif q x then nx () else some z) (k:Unit→Option Z) :
  ∀ (l:List α) (i:Nat),forL l i f () k=bif l.all q then k () else some z
 | [],i=>rfl
 | x::l,i=>by
  unfold forL
  rw [hf,zcH q hf k l (i+1),List.all_cons]
  cases q x <;> rfl
theorem zle {f:Nat→α→S→(S→Option Z)→(S→Option Z)→Option Z} {k:S→Option Z} (inv:Nat→List α→S→Prop) (R:Nat→List α→S→Option Z)
  (h0:∀ i s,inv i [] s→k s=R i [] s) (h1:∀ i x l s nx,inv i (x::l) s→(∀ s',inv (i+1) l s'→nx s'=R (i+1) l s')→f i x s nx k=R i (x::l) s) :
  ∀ (l:List α) (i:Nat) (s:S),inv i l s→forL l i f s k=R i l s
 | [],i,s,h=>h0 i s h
 | x::l,i,s,h=>h1 i x l s _ h fun s' hs=>zle inv R h0 h1 l (i+1) s' hs
theorem zbM {f:S→(S→Option Z)→(S→Option Z)→Option Z} {k:S→Option Z} (inv:S→Prop) (mu:S→Nat) (R:S→Option Z)
  (h:∀ s nx,inv s→(∀ s',inv s'→mu s' < mu s→nx s'=R s')→f s nx k=R s):∀ (N:Nat) (s:S),inv s→mu s < N→loopN N f s k=R s
 | 0,s,_,hm=>by omega
 | N+1,s,hi,hm=>by
  unfold loopN
  exact h s _ hi fun s' hs' hlt=>zbM inv mu R h N s' hs' (by omega)
theorem zc3 (b:Bool) (x y:Z):(bif b then some x else some y)=some (bif b then x else y):=by cases b <;> rfl
theorem zjj (c:Bool) (x y:Z):(bif c then x else y)=bif !c then y else x:=by cases c <;> rfl
theorem bif_t {c:Bool} (h:c=true) (x y:Z):(bif c then x else y)=x:=by rw [h]; rfl
theorem zfV {c:Bool} (h:c=false) (x y:Z):(bif c then x else y)=y:=by rw [h]; rfl
end
theorem zah {n:Int} (h1:-9223372036854775808≤n) (h2:n≤9223372036854775807):IntKind.i64.wrap n=n:=wrap64 h1 h2
theorem wrapN (n:Nat) (h:n≤9223372036854775807):IntKind.i64.wrap (n:Int)=n:=wrap64 (by omega) (by omega)
theorem zd2 (i:Nat) (h:i < 9223372036854775807):IntKind.i64.wrap ((i:Int)+1)=((i+1:Nat):Int):=by rw [zah (by omega) (by omega)]; rfl
theorem wrapm1 (i:Nat) (h0:0 < i) (h:i < 9223372036854775807):IntKind.i64.wrap ((i:Int) - 1)=((i - 1:Nat):Int):=by rw [zah (by omega) (by omega)]; omega
theorem zbQ:1099511627776≤zc4:=Nat.le_refl _
def zat (c:UInt8):Str→Str × Str × Bool
 | []=>([],[],false)
 | b::s=>if b=c then ([],s,true) else (b::(zat c s).1,(zat c s).2.1,(zat c s).2.2)
def zD (c:UInt8):Str→List Str
 | []=>[[]]
 | b::s=>if b=c then []::zD c s else match zD c s with
  | []=>[[b]]
  | h::t=>(b::h)::t
theorem zdD {c:UInt8}:∀ {s:Str},c ∉ s→zat c s=(s,[],false)
 | [],_=>rfl
 | b::s,h=>by
  have hb:b ≠ c:=fun e=>h (by simp [e])
  have ht:=zdD (s:=s) (c:=c) (fun h'=>h (List.mem_cons_of_mem _ h'))
  simp only [zat,if_neg hb,ht]
theorem zbz {c:UInt8}:∀ {s:Str},c ∈ s→(zat c s).2.2=true∧s=(zat c s).1++c::(zat c s).2.1∧c ∉ (zat c s).1
 | [],h=>by cases h
 | b::s,h=>by
  by_cases hb:b=c
  ·subst hb; simp [zat]
  ·have hm:c ∈ s:=by
    rcases List.mem_cons.1 h with rfl | h
    ·exact absurd rfl hb
    ·exact h
   obtain ⟨h1,h2,h3⟩:=zbz hm
   simp only [zat,if_neg hb]
   refine ⟨h1,by rw [List.cons_append,← h2],?_⟩
   intro h'
   rcases List.mem_cons.1 h' with rfl | h'
   ·exact hb rfl
   ·exact h3 h'
theorem zfu {c:UInt8}:∀ {a b:Str},c ∉ a→zat c (a++c::b)=(a,b,true)
 | [],b,_=>by simp [zat]
 | x::a,b,h=>by
  have hx:x ≠ c:=fun e=>h (by simp [e])
  have:=zfu (a:=a) (b:=b) (c:=c) (fun h'=>h (List.mem_cons_of_mem _ h'))
  simp only [List.cons_append,zat,if_neg hx,this]
theorem zhh (c:UInt8) (s:Str):zD c s ≠ []:=by
 cases s with
 | nil=>simp [zD]
 | cons b s =>
  simp only [zD]
  split
  ·simp
  ·split <;> simp
theorem zco {c:UInt8}:∀ {s:Str},c ∉ s→zD c s=[s]
 | [],_=>rfl
 | b::s,h=>by
  have hb:b ≠ c:=fun e=>h (by simp [e])
  have ht:=zco (s:=s) (c:=c) (fun h'=>h (List.mem_cons_of_mem _ h'))
  simp only [zD,if_neg hb,ht]
theorem zcQ {c:UInt8}:∀ {a b:Str},c ∉ a→zD c (a++c::b)=a::zD c b
 | [],b,_=>by simp [zD]
 | x::a,b,h=>by
  have hx:x ≠ c:=fun e=>h (by simp [e])
  have:=zcQ (a:=a) (b:=b) (c:=c) (fun h'=>h (List.mem_cons_of_mem _ h'))
  simp only [List.cons_append,zD,if_neg hx,this]
theorem ziy (c:UInt8) (s:Str):zD c s=if (zat c s).2.2=true then (zat c s).1::zD c (zat c s).2.1 else [s]:=by
 by_cases h:c ∈ s
 ·obtain ⟨h1,h2,h3⟩:=zbz h
  rw [if_pos h1]
  conv=>lhs; rw [h2]
  exact zcQ h3
 ·rw [zdD h]
  simpa using zco h
theorem zdc (c:UInt8) (s:Str):(zat c s).1.length≤s.length∧(zat c s).2.1.length≤s.length∧((zat c s).2.2=true→(zat c s).1.length+(zat c s).2.1.length+1=s.length):=by
 by_cases h:c ∈ s
 ·obtain ⟨h1,h2,h3⟩:=zbz h
  have:=congrArg List.length h2
  simp only [List.length_append,List.length_cons] at this
  exact ⟨by omega,by omega,fun _=>by omega⟩
 ·rw [zdD h]; simp
theorem zcx {c:UInt8}:∀ {s:Str} {p:Str},p ∈ zD c s→p.length≤s.length
 | [],p,h=>by simp [zD] at h; simp [h]
 | b::s,p,h=>by
  simp only [zD] at h
  split at h
  ·rcases List.mem_cons.1 h with rfl | h
   ·simp
   ·have:=zcx h; simp; omega
  ·split at h
   ·rename_i e; exact absurd e (zhh c s)
   ·rename_i a t e
    rcases List.mem_cons.1 h with rfl | h
    ·have:=zcx (s:=s) (p:=a) (c:=c) (by rw [e]; simp)
     simp; omega
    ·have:=zcx (s:=s) (p:=p) (c:=c) (by rw [e]; simp [h])
     simp; omega
theorem zfZ (c:UInt8) (s:Str):(zD c s).length=s.count c+1:=by
 induction s with
 | nil=>rfl
 | cons b s ih =>
  simp only [zD]
  split
  ·rename_i e; subst e; simp [ih]
  ·rename_i e
   rw [List.count_cons_of_ne (by simpa using e)]
   split
   ·rename_i e'; exact absurd e' (zhh c s)
   ·rename_i e'; rw [e'] at ih; simpa using ih
def ixb (s:Str) (c:UInt8):Int:=Lib.indexByte s c
theorem ixb_cut (c:UInt8):∀ s:Str,ixb s c=if c ∈ s then ((zat c s).1.length:Int) else -1
 | []=>rfl
 | b::s=>by
  have ih:=ixb_cut c s
  unfold ixb at *
  unfold Lib.indexByte
  by_cases hb:b=c
  ·subst hb; simp [zat]
  ·rw [if_neg (by simpa using hb),ih]
   simp only [zat,if_neg hb,List.mem_cons,Ne.symm hb,false_or]
   by_cases h:c ∈ s
   ·rw [if_pos h,if_pos h]
    simp
   ·rw [if_neg h,if_neg h]; rfl
theorem zk6 {c:UInt8} {s:Str} (h:c ∉ s):ixb s c=-1:=by rw [ixb_cut,if_neg h]
theorem zie {c:UInt8} {s:Str} (h:c ∈ s):ixb s c=((zat c s).1.length:Int):=by rw [ixb_cut,if_pos h]
theorem zhw {c:UInt8} {s:Str} (h:c ∈ s):s.take (zat c s).1.length=(zat c s).1∧s.drop ((zat c s).1.length+1)=(zat c s).2.1:=by
 obtain ⟨h1,h2,h3⟩:=zbz h
 generalize zat c s=q at h2 ⊢
 subst h2
 constructor
 ·exact List.take_left' rfl
 ·rw [← List.drop_drop,List.drop_left' rfl]; rfl
theorem len1 (c:UInt8):((([c]:Str).length:Nat):Int)=1:=rfl
theorem wrapc1 (i:Nat) (c:UInt8) (h:i < 9223372036854775807):IntKind.i64.wrap ((i:Int)+((([c]:Str).length:Nat):Int))=((i+1:Nat):Int):=zd2 i h
theorem zhN (s:Str) (c:UInt8):zf6 s (c.toNat:Int)=ixb s c:=by
 unfold zf6 ixb
 congr 1
 simp
theorem slite_eq (s:Str) (c:UInt8):zU s [c]=some (ixb s c):=by
 unfold zU zN
 by_cases h:s=[c]
 ·subst h
  simp [ixb,Lib.indexByte]
 ·have:(decide (([c]:Str)=s))=false:=by simpa using fun e=>h e.symm
  simp only [this,len1,show decide ((1:Int)=0)=false from rfl,show decide ((1:Int)=1)=true from rfl,decide_true,Bool.or_false,cond_false,cond_true]
  show zd1 [c] ((0:Nat):Int) _=_
  rw [zcG (by simp)]
  simp only [zd,List.getElem_cons_zero,zhN]
theorem zif (s:Str) (c:UInt8):zaZ s [c]=some (ixb s c):=by
 unfold zaZ
 rw [slite_eq]; rfl
theorem count_eq (s:Str) (c:UInt8):zcw s [c]=some ((s.count c:Nat):Int):=by
 unfold zcw
 simp only [len1,show decide ((1:Int)=0)=false from rfl,show decide ((1:Int)=1)=true from rfl,decide_true,cond_false,cond_true]
 show zd1 [c] ((0:Nat):Int) _=_
 rw [zcG (by simp)]
 unfold zeW
 simp
theorem cut_eq (s:Str) (c:UInt8) (hs:s.length≤1099511627776):zcj s [c]=some (zat c s):=by
 unfold zcj zaI
 rw [slite_eq]
 simp only [zd]
 by_cases h:c ∈ s
 ·obtain ⟨h1,h2,h3⟩:=zbz h
  have hl:=(zdc c s).2.2 h1
  obtain ⟨t1,t2⟩:=zhw h
  rw [zie h,decide_eq_true (by omega),cond_true]
  rw [zg (by omega)]
  simp only [wrapc1 _ c (show (zat c s).1.length < 9223372036854775807 by omega)]
  rw [zg (by omega)]
  simp only [Int.toNat_natCast,t1,t2,zd]
  rw [show true=(zat c s).2.2 from h1.symm]
 ·rw [zk6 h]
  simp only [show decide ((0:Int)≤-1)=false from rfl,cond_false,zd]
  rw [zdD h]
theorem zjM {c:UInt8} {s:Str} (h:c ∈ s):(zat c s).2.1.count c+1=s.count c:=by
 obtain ⟨h1,h2,h3⟩:=zbz h
 conv=>rhs; rw [h2]
 rw [List.count_append,List.count_eq_zero_of_not_mem h3,List.count_cons_self]
 omega
theorem zia {α:Type} (l:List α) (i:Nat) (x:α) (h:i < l.length):(l.set i x).take (i+1)=l.take i++[x]:=by
 rw [List.take_succ_eq_append_getElem (by simpa using h)]
 simp [List.take_set_of_le]
theorem zdm (s:Str) (c:UInt8) (hs:s.length≤17179869184):zae s [c]=some (zD c s):=by
 have hcl:=List.count_le_length (a:=c) (l:=s)
 have key:zav s [c] 0 (-1)=some (zD c s):=by
  unfold zav
  obtain ⟨N,hN⟩:∃ N,zc4=N:=⟨_,rfl⟩
  have hN2:1099511627776≤N:=hN ▸ zbQ
  rw [hN]
  clear hN
  have hmin:min ((s.count c+1:Nat):Int) ((s.length+1:Nat):Int)=((s.count c+1:Nat):Int):=by omega
  simp only [zaY,count_eq,zd,show decide ((-1:Int)=0)=false from rfl,show decide ((-1:Int) < 0)=true from rfl,show decide (([c]:Str)=[])=false from rfl,cond_true,cond_false]
  simp only [zd2 (s.count c) (by omega),zd2 s.length (by omega),hmin]
  rw [zg (by omega)]
  have hw:IntKind.i64.wrap (((s.count c+1:Nat):Int) - 1)=((s.count c:Nat):Int):=by rw [zah (by omega) (by omega)]; omega
  simp only [hw,Int.toNat_natCast]
  refine (zbM (S:=Str × Int × List Str) (fun st=>∃ i:Nat,st.2.1=i∧st.2.2.length=s.count c+1∧st.1.length≤s.length∧i+st.1.count c=s.count c) (fun st=>s.count c - st.2.1.toNat)
   (fun st=>some (st.2.2.take st.2.1.toNat++zD c st.1)) ?_ N _ ⟨0,rfl,by simp,Nat.le_refl _,by simp⟩ (by simp only; omega)).trans ?_
  ·rintro ⟨t,i',o⟩ nx ⟨i,rfl,ho,ht,hc⟩ hnx
   simp only at ho ht hc hnx ⊢
   simp only [zif,zd]
   by_cases hi:i < s.count c
   ·have hmem:c ∈ t:=by rw [← List.count_pos_iff]; omega
    obtain ⟨h1,h2,h3⟩:=zbz hmem
    have hl:=(zdc c t).2.2 h1
    obtain ⟨t1,t2⟩:=zhw hmem
    rw [decide_eq_true (by omega),cond_true,zie hmem,decide_eq_false (by omega),cond_false]
    have hw3:IntKind.i64.wrap (((zat c t).1.length:Int)+0)=((zat c t).1.length:Int):=by rw [zah (by omega) (by omega)]; omega
    have hw4:IntKind.i64.wrap (((zat c t).1.length:Int)+(([c]:Str).length:Int))=(((zat c t).1.length+1:Nat):Int):=zd2 _ (by omega)
    simp only [hw3,hw4,zd2 i (by omega),Int.toNat_natCast]
    rw [zg (by omega),zg (by omega),zg (by omega)]
    have hdc:=zjM hmem
    simp only [t1,t2]
    rw [hnx _ ⟨i+1,rfl,by simpa using ho,by simp only; omega,by simp only; omega⟩ (by simp only [Int.toNat_natCast]; omega)]
    simp only [Int.toNat_natCast]
    rw [zia o i _ (by omega)]
    congr 1
    rw [show zD c t=(zat c t).1::zD c (zat c t).2.1 by rw [ziy,if_pos h1]]
    simp
   ·obtain rfl:i=s.count c:=by omega
    rw [decide_eq_false (by omega),cond_false]
    have hmem:c ∉ t:=by rw [← List.count_pos_iff]; omega
    rw [zg (by omega),zd2 _ (by omega)]
    simp only [Int.toNat_natCast,List.length_set]
    rw [zg (by omega),zia o _ _ (by omega),zco hmem]
  ·simp
 unfold zae
 rw [key]; rfl
def HX:Str:=[48,49,50,51,52,53,54,55,56,57,97,98,99,100,101,102]
def zkk (n:Nat):UInt8:=HX.getD n 0
def zen (c:UInt8):Bool:=decide ((c.toNat:Int)=92) || decide ((c.toNat:Int)=34)
def zgr (c:UInt8):Bool:=decide ((c.toNat:Int) < 32) || decide (126 < (c.toNat:Int))
def esc (c:UInt8):Str:=bif zen c then [92,c] else bif decide ((c.toNat:Int)=10) then [92,110] else bif zgr c then [92,120,zkk (c.toNat / 16),zkk (c.toNat % 16)] else [c]
def body (t:Str):Str:=t.flatMap esc
def zaD (t:Str):Str:=34::(body t++[34])
theorem u8all {p:UInt8→Prop} (h:∀ n:Fin 256,p (UInt8.ofNat n.val)) (c:UInt8):p c:=by
 have:=h ⟨c.toNat,c.toNat_lt⟩
 simpa using this
theorem hi4 (c:UInt8):Int.fdiv (c.toNat:Int) (2 ^ (shI .u8 4))=((c.toNat / 16:Nat):Int):=by
 revert c
 exact u8all (by decide +kernel)
theorem lo4 (c:UInt8):zaz .and .u8 (c.toNat:Int) 15=((c.toNat % 16:Nat):Int):=by
 revert c
 exact u8all (by decide +kernel)
theorem hi4_lt (c:UInt8):c.toNat / 16 < 16:=by have:=c.toNat_lt; omega
theorem lo4_lt (c:UInt8):c.toNat % 16 < 16:=by omega
theorem hx_get (n:Nat) (h:n < 16):(HX[n]'(by simpa [HX] using h))=zkk n:=by
 simp [zkk,HX,List.getD_eq_getElem?_getD,h]
theorem hx_idx {Z:Type} (n:Nat) (h:n < 16) (k:Int→Option Z):zd1 HX (n:Int) k=k ((zkk n).toNat:Int):=by
 rw [zcG (by simpa [HX] using h),hx_get n h]
theorem u8i (c:UInt8):UInt8.ofNat ((c.toNat:Int)).toNat=c:=by simp
theorem zli (c:UInt8):(esc c).length≤4∧1≤(esc c).length:=by
 unfold esc
 cases zen c <;> cases decide ((c.toNat:Int)=10) <;> cases zgr c <;> simp
theorem body_len (t:Str):(body t).length≤4 * t.length:=by
 induction t with
 | nil=>simp [body]
 | cons c t ih =>
  have:=(zli c).1
  simp only [body,List.flatMap_cons,List.length_append,List.length_cons] at *
  omega
theorem zb9 (c:UInt8) (t:Str):body (c::t)=esc c++body t:=by simp [body]
theorem quoteS_len (t:Str):(zaD t).length≤4 * t.length+2:=by
 have:=body_len t
 simp only [zaD,List.length_cons,List.length_append,List.length_nil]; omega
theorem takeHex (n:Nat) (h:n < 16):List.take ((IntKind.u8.wrap ((n:Int)+1)).toNat - ((n:Int)).toNat) (List.drop ((n:Int)).toNat HX)=[zkk n]:=by
 have:∀ m:Fin 16,List.take ((IntKind.u8.wrap (((m.val:Nat):Int)+1)).toNat - (((m.val:Nat):Int)).toNat) (List.drop (((m.val:Nat):Int)).toNat HX)=[zkk m.val]:=by decide +kernel
 exact this ⟨n,h⟩
theorem wrapHex (n:Nat) (h:n < 16):IntKind.u8.wrap ((n:Int)+1)=((n+1:Nat):Int):=by
 have:∀ m:Fin 16,IntKind.u8.wrap (((m.val:Nat):Int)+1)=((m.val+1:Nat):Int):=by decide +kernel
 exact this ⟨n,h⟩
theorem hxl:HX.length=16:=rfl
theorem zky (s:Str) (hs:s.length≤17179869184):zhB s=some (zaD s):=by
 unfold zhB
 simp only [zaY,show ([48,49,50,51,52,53,54,55,56,57,97,98,99,100,101,102]:Str)=HX from rfl]
 refine (zle (fun i l (o:Str)=>o.length+4 * l.length≤4 * s.length+1∧s.drop i=l) (fun i l o=>some (o++(body l++[34]))) (fun i o h=>?_) (fun i c l o nx h hnx=>?_) s 0 _ ?_).trans ?_
 ·simp only [List.length_nil] at h
  rw [zg (by simp; omega)]
  rfl
 ·obtain ⟨h,hd⟩:=h
  simp only [List.length_cons] at h
  have hi:i < s.length:=by
   rcases Nat.lt_or_ge i s.length with h | h
   ·exact h
   ·rw [List.drop_eq_nil_of_le h] at hd; cases hd
  have hd':s.drop (i+1)=l:=by
   have:=congrArg List.tail hd
   simpa using this
  have ht:List.take ((((i+1:Nat):Int)).toNat - i) (List.drop i s)=[c]:=by
   rw [hd,Int.toNat_natCast,Nat.add_sub_cancel_left]; rfl
  simp only [zd2 i (by omega),ht]
  rw [zb9]
  unfold esc zen
  rw [show (decide ((c.toNat:Int)=34) || decide ((c.toNat:Int)=92))=(decide ((c.toNat:Int)=92) || decide ((c.toNat:Int)=34)) from Bool.or_comm _ _]
  cases h1:decide ((c.toNat:Int)=92) || decide ((c.toNat:Int)=34) with
  | true =>
   simp only [cond_true]
   rw [zg (by omega),zg (by simp),zg (by simp; omega),hnx _ ⟨by simp; omega,hd'⟩]
   simp
  | false =>
   simp only [cond_false]
   cases h2:decide ((c.toNat:Int)=10) with
   | true =>
    simp only [cond_true]
    rw [zg (by simp; omega),hnx _ ⟨by simp; omega,hd'⟩]
    simp
   | false =>
    simp only [cond_false]
    unfold zgr
    cases h3:decide ((c.toNat:Int) < 32) || decide (126 < (c.toNat:Int)) with
    | true =>
     have a1:=hi4_lt c
     have a2:=lo4_lt c
     simp only [cond_true,hi4,lo4]
     simp only [takeHex _ a1,takeHex _ a2]
     simp only [wrapHex _ a1,wrapHex _ a2,hxl]
     rw [zg (by omega),zg (by simp),zg (by omega),zg (by simp),zg (by simp; omega),hnx _ ⟨by simp; omega,hd'⟩]
     simp
    | false =>
     simp only [cond_false]
     rw [zg (by omega),zg (by simp; omega),hnx _ ⟨by simp; omega,hd'⟩]
     simp
 ·exact ⟨by simp; omega,rfl⟩
 ·rfl
theorem zll (s:Str) (hs:s.length≤17179869184):zeB s=some (zaD s):=by
 unfold zeB
 have hw:IntKind.i64.wrap ((s.length:Int)+2)=((s.length+2:Nat):Int):=by rw [zah (by omega) (by omega)]; rfl
 simp only [hw,zaY]
 rw [zg (by omega),zg (by simp)]
 refine (zle (fun i l (o:List Int)=>o.length+4 * l.length≤4 * s.length+1) (fun i l o=>some (Go.Vc.strOf o++(body l++[34]))) (fun i o h=>?_) (fun i c l o nx h hnx=>?_) s 0 _ ?_).trans ?_
 ·simp only [List.length_nil] at h
  rw [zg (by simp; omega),zbn]
  rfl
 ·simp only [List.length_cons] at h
  rw [zb9]
  unfold esc zen
  cases h1:decide ((c.toNat:Int)=92) || decide ((c.toNat:Int)=34) with
  | true =>
   simp only [cond_true]
   rw [zg (by simp; omega),hnx _ (by simp; omega),zbn]
   simp only [zcn,zc9,u8i]
   simp
  | false =>
   simp only [cond_false]
   cases h2:decide ((c.toNat:Int)=10) with
   | true =>
    simp only [cond_true]
    rw [zg (by simp; omega),hnx _ (by simp; omega),zbn]
    simp [zcn,zc9]
   | false =>
    simp only [cond_false]
    unfold zgr
    cases h3:decide ((c.toNat:Int) < 32) || decide (126 < (c.toNat:Int)) with
    | true =>
     simp only [cond_true,hi4,lo4]
     rw [show ([48,49,50,51,52,53,54,55,56,57,97,98,99,100,101,102]:Str)=HX from rfl,hx_idx _ (hi4_lt c),hx_idx _ (lo4_lt c),zg (by simp; omega),hnx _ (by simp; omega),zbn]
     simp only [zcn,zc9,u8i]
     simp
    | false =>
     simp only [cond_false]
     rw [zg (by simp; omega),hnx _ (by simp; omega),zbn]
     simp only [zcn,zc9,u8i]
     simp
 ·simp; omega
 ·simp only [List.replicate,List.nil_append,zcn,zc9]
  rfl
def zhb (c:UInt8):Int:=ixb HX c
theorem zdB (c:UInt8):zhb c=-1 ∨ ∃ a:Fin 16,zhb c=(a.val:Int)∧c=zkk a.val:=by
 revert c
 exact u8all (by decide +kernel)
theorem zez (n:Nat) (h:n < 16):zhb (zkk n)=n:=by
 have:∀ m:Fin 16,zhb (zkk m.val)=(m.val:Int):=by decide +kernel
 exact this ⟨n,h⟩
def zig:Str→Int × Int
 | []=>(0,0)
 | c::r=>bif zen c then ((c.toNat:Int),1) else bif decide ((c.toNat:Int)=110) then (10,1) else bif !decide ((c.toNat:Int)=120) then (0,0) else match r with
  | h::l::_=>bif decide (zhb h < 0) || decide (zhb l < 0) then (0,0) else bif (decide (32≤16 * zhb h+zhb l) && decide (16 * zhb h+zhb l≤126)) || decide (16 * zhb h+zhb l=10) then (0,0) else (16 * zhb h+zhb l,3)
  | _=>(0,0)
theorem escR_bd (r:Str):0≤(zig r).2∧(zig r).2≤r.length∧(zig r).2≤3∧0≤(zig r).1∧(zig r).1≤255:=by
 cases r with
 | nil=>simp [zig]
 | cons c r =>
  have hc:=c.toNat_lt
  simp only [zig]
  cases zen c
  ·cases decide ((c.toNat:Int)=110)
   ·cases decide ((c.toNat:Int)=120)
    ·simp; omega
    ·rcases r with _ | ⟨h,_ | ⟨l,r⟩⟩
     ·simp
     ·simp; try omega
     ·simp only [cond_false,Bool.not_true]
      rcases zdB h with h1 | ⟨a,h1,_⟩
      ·simp [h1]; omega
      rcases zdB l with h2 | ⟨b,h2,_⟩
      ·simp [h2]; omega
      have:=a.isLt
      have:=b.isLt
      simp only [h1,h2]
      cases decide (((a.val:Nat):Int) < 0) || decide (((b.val:Nat):Int) < 0)
      ·simp only [cond_false]
       generalize (decide (32≤16 * ((a.val:Nat):Int)+((b.val:Nat):Int)) && decide (16 * ((a.val:Nat):Int)+((b.val:Nat):Int)≤126) || decide (16 * ((a.val:Nat):Int)+((b.val:Nat):Int)=10))=q
       cases q
       ·simp only [cond_false,List.length_cons]; omega
       ·simp; omega
      ·simp; omega
   ·simp; omega
  ·simp only [cond_true,List.length_cons]; omega
theorem escR_esc {x:UInt8} (h:zen x=true) (r:Str):zig (x::r)=((x.toNat:Int),1):=by simp only [zig,h,cond_true]
theorem escR_bad {x:UInt8} (h:zen x=false) (h2:decide ((x.toNat:Int)=110)=false) (h3:decide ((x.toNat:Int)=120)=false) (r:Str):zig (x::r)=(0,0):=by simp only [zig,h,h2,h3,cond_false,Bool.not_false,cond_true]
theorem zlj (h l:UInt8) (r:Str):zig (120::h::l::r)=bif decide (zhb h < 0) || decide (zhb l < 0) then (0,0) else bif (decide (32≤16 * zhb h+zhb l) && decide (16 * zhb h+zhb l≤126)) || decide (16 * zhb h+zhb l=10) then (0,0) else (16 * zhb h+zhb l,3):=rfl
theorem escR_hexq (m n:Nat) (hm:m < 16) (hn:n < 16) (r:Str):zig (120::zkk m::zkk n::r)=bif (decide (32≤16 * (m:Int)+(n:Int)) && decide (16 * (m:Int)+(n:Int)≤126)) || decide (16 * (m:Int)+(n:Int)=10) then (0,0) else (16 * (m:Int)+(n:Int),3):=by
 rw [zlj,zez m hm,zez n hn,decide_eq_false (by omega),decide_eq_false (by omega)]
 rfl
theorem zk9 (s:Str) (c:UInt8):zaA s (c.toNat:Int)=some (ixb s c):=by
 unfold zaA zN
 rw [zhN]; rfl
theorem wrapB (n:Int) (h:0≤n) (h2:n≤255):IntKind.u8.wrap n=n:=by
 rw [wrap8 h h2]
theorem zjN (s:Str):zdV s=some (zig s):=by
 unfold zdV
 cases s with
 | nil=>rfl
 | cons c r =>
  simp only [show decide (c::r=([]:Str))=false from rfl,cond_false]
  rw [show zd1 (c::r) 0=zd1 (c::r) ((0:Nat):Int) from rfl,zcG (by simp)]
  simp only [List.getElem_cons_zero]
  simp only [zig]
  rw [show (decide ((c.toNat:Int)=92) || decide ((c.toNat:Int)=34))=zen c from rfl]
  cases zen c
  ·simp only [cond_false]
   cases decide ((c.toNat:Int)=110)
   ·simp only [cond_false]
    cases decide ((c.toNat:Int)=120)
    ·rfl
    ·simp only [Bool.not_true,Bool.false_or,cond_false]
     rcases r with _ | ⟨h,_ | ⟨l,r⟩⟩
     ·rfl
     ·rfl
     ·rw [decide_eq_false (by simp only [List.length_cons]; omega),cond_false,show zd1 (c::h::l::r) 1=zd1 (c::h::l::r) ((1:Nat):Int) from rfl,zcG (by simp)]
      simp only [List.getElem_cons_succ,List.getElem_cons_zero,show ([48,49,50,51,52,53,54,55,56,57,97,98,99,100,101,102]:Str)=HX from rfl,zk9,zd]
      rw [show zd1 (c::h::l::r) 2=zd1 (c::h::l::r) ((2:Nat):Int) from rfl,zcG (by simp)]
      simp only [List.getElem_cons_succ,List.getElem_cons_zero,zk9,zd]
      rw [show ixb HX h=zhb h from rfl,show ixb HX l=zhb l from rfl]
      rcases zdB h with h1 | ⟨a,h1,_⟩
      ·rw [h1]; rfl
      rcases zdB l with h2 | ⟨b,h2,_⟩
      ·rw [h2]; simp
      have ha:=a.isLt
      have hb:=b.isLt
      rw [h1,h2,decide_eq_false (by omega),decide_eq_false (by omega)]
      simp only [Bool.or_false,cond_false]
      rw [zah (n:=16 * ((a.val:Nat):Int)) (by omega) (by omega),zah (n:=16 * ((a.val:Nat):Int)+((b.val:Nat):Int)) (by omega) (by omega),wrapB _ (by omega) (by omega)]
      generalize (decide (32≤16 * ((a.val:Nat):Int)+((b.val:Nat):Int)) && decide (16 * ((a.val:Nat):Int)+((b.val:Nat):Int)≤126) || decide (16 * ((a.val:Nat):Int)+((b.val:Nat):Int)=10))=q
      cases q <;> rfl
   ·rfl
  ·rfl
def sym:Str→Option (UInt8 × Str)
 | []=>none
 | c::r=>bif zgr c || decide ((c.toNat:Int)=34) then none else bif decide ((c.toNat:Int)=92) then (bif decide ((zig r).2=0) then none else some (UInt8.ofNat (zig r).1.toNat,r.drop (zig r).2.toNat)) else some (c,r)
theorem far_hex (x:UInt8) (h1:zen x=false) (h2:decide ((x.toNat:Int)=10)=false) (h3:zgr x=true) (r:Str):zig (120::zkk (x.toNat / 16)::zkk (x.toNat % 16)::r)=((x.toNat:Int),3):=by
 have a1:=hi4_lt x
 have a2:=lo4_lt x
 simp only [zig]
 rw [show zen 120=false from rfl,show decide ((((120:UInt8).toNat:Nat):Int)=110)=false from rfl,show decide ((((120:UInt8).toNat:Nat):Int)=120)=true from rfl]
 simp only [cond_false,Bool.not_true,zez _ a1,zez _ a2]
 have e:16 * ((x.toNat / 16:Nat):Int)+((x.toNat % 16:Nat):Int)=(x.toNat:Int):=by omega
 rw [e,decide_eq_false (by omega),decide_eq_false (by omega)]
 simp only [Bool.or_self,cond_false,h2,Bool.or_false]
 have:(decide (32≤(x.toNat:Int)) && decide ((x.toNat:Int)≤126))=false:=by
  unfold zgr at h3
  simp only [Bool.or_eq_true,decide_eq_true_eq] at h3
  simp only [Bool.and_eq_false_iff,decide_eq_false_iff_not]
  omega
 rw [this]; rfl
theorem ziu (x:UInt8) (r:Str):sym (esc x++r)=some (x,r):=by
 unfold esc
 cases h1:zen x
 ·cases h2:decide ((x.toNat:Int)=10)
  ·cases h3:zgr x
   ·simp only [cond_false,List.cons_append,List.nil_append]
    simp only [sym]
    unfold zen at h1
    simp only [Bool.or_eq_false_iff] at h1
    rw [h3,h1.1,h1.2]; rfl
   ·simp only [cond_false,cond_true,List.cons_append,List.nil_append]
    simp only [sym]
    rw [far_hex x h1 h2 h3]
    simp
    rfl
  ·simp only [cond_false,cond_true,List.cons_append,List.nil_append]
   have:x=10:=by
    have h:=of_decide_eq_true h2
    have:x.toNat=10:=by omega
    exact UInt8.toNat_inj.1 this
   subst this
   rfl
 ·simp only [cond_true,List.cons_append,List.nil_append]
  simp only [sym,escR_esc h1]
  simp
  rfl
theorem sym_spec {r r2:Str} {x:UInt8} (h:sym r=some (x,r2)):r=esc x++r2:=by
 cases r with
 | nil=>cases h
 | cons c r =>
  simp only [sym] at h
  cases hf:zgr c || decide ((c.toNat:Int)=34)
  ·rw [hf,cond_false] at h
   simp only [Bool.or_eq_false_iff] at hf
   cases hb:decide ((c.toNat:Int)=92)
   ·rw [hb,cond_false] at h
    cases h
    unfold esc zen
    rw [hb,hf.2]
    have:decide ((x.toNat:Int)=10)=false:=by
     have:=hf.1
     unfold zgr at this
     simp only [Bool.or_eq_false_iff,decide_eq_false_iff_not] at this
     simp only [decide_eq_false_iff_not]
     omega
    rw [this,hf.1]; rfl
   ·rw [hb,cond_true] at h
    have hc:c=92:=by
     have h:=of_decide_eq_true hb
     have:c.toNat=92:=by omega
     exact UInt8.toNat_inj.1 this
    subst hc
    cases r with
    | nil=>simp [zig] at h
    | cons d r =>
     cases he:zen d
     ·cases hn:decide ((d.toNat:Int)=110)
      ·cases hx:decide ((d.toNat:Int)=120)
       ·rw [escR_bad he hn hx] at h; simp at h
       ·have hd:d=120:=by
         have h:=of_decide_eq_true hx
         have:d.toNat=120:=by omega
         exact UInt8.toNat_inj.1 this
        subst hd
        rcases r with _ | ⟨a,_ | ⟨b,r⟩⟩
        ·rw [show zig [120]=(0,0) from rfl] at h; simp at h
        ·rw [show zig [120,a]=(0,0) from rfl] at h; simp at h
        ·rcases zdB a with h1 | ⟨m,h1,rfl⟩
         ·rw [zlj,h1] at h; simp at h
         rcases zdB b with h2 | ⟨n,h2,rfl⟩
         ·rw [zlj,h2] at h; simp at h
         have hm:=m.isLt
         have hn':=n.isLt
         have hE:=escR_hexq m.val n.val hm hn' r
         cases hq:(decide (32≤16 * ((m.val:Nat):Int)+((n.val:Nat):Int)) && decide (16 * ((m.val:Nat):Int)+((n.val:Nat):Int)≤126)) || decide (16 * ((m.val:Nat):Int)+((n.val:Nat):Int)=10)
         ·rw [hq,cond_false] at hE
          rw [hE] at h
          rw [show decide ((3:Int)=0)=false from rfl,cond_false] at h
          have h':=Option.some.inj h
          have hx':UInt8.ofNat (16 * ((m.val:Nat):Int)+((n.val:Nat):Int)).toNat=x:=congrArg Prod.fst h'
          have hr':List.drop (3:Int).toNat (120::zkk m.val::zkk n.val::r)=r2:=congrArg Prod.snd h'
          have hr2:r=r2:=hr'
          have hxn:x.toNat=16 * m.val+n.val:=by
           rw [← hx',UInt8.toNat_ofNat']
           omega
          simp only [Bool.or_eq_false_iff,Bool.and_eq_false_iff,decide_eq_false_iff_not] at hq
          unfold esc
          have e1:zen x=false:=by
           unfold zen
           simp only [Bool.or_eq_false_iff,decide_eq_false_iff_not]
           omega
          have e2:decide ((x.toNat:Int)=10)=false:=by simp only [decide_eq_false_iff_not]; omega
          have e3:zgr x=true:=by
           unfold zgr
           simp only [Bool.or_eq_true,decide_eq_true_eq]
           omega
          rw [e1,e2,e3,hxn,show (16 * m.val+n.val) / 16=m.val by omega,show (16 * m.val+n.val) % 16=n.val by omega,← hr2]
          rfl
         ·rw [hq,cond_true] at hE
          rw [hE] at h; simp at h
      ·have hd:d=110:=by
        have h:=of_decide_eq_true hn
        have:d.toNat=110:=by omega
        exact UInt8.toNat_inj.1 this
       subst hd
       have h':some ((10:UInt8),r)=some (x,r2):=h
       cases h'
       rfl
     ·rw [escR_esc he] at h
      simp only [] at h
      rw [show decide ((1:Int)=0)=false from rfl,cond_false,u8i] at h
      cases h
      unfold esc
      rw [he]; rfl
  ·rw [hf,cond_true] at h; cases h
def undo:Nat→Str→Option Str
 | n,[]=>some []
 | 0,_::_=>none
 | n+1,c::r=>(sym (c::r)).bind fun p=>(undo n p.2).map (p.1::·)
theorem zh7 (n:Nat):undo n []=some []:=by cases n <;> rfl
theorem undo_zero (c:UInt8) (r:Str):undo 0 (c::r)=none:=rfl
theorem zfh (n:Nat) (c:UInt8) (r:Str):undo (n+1) (c::r)=(sym (c::r)).bind fun p=>(undo n p.2).map (p.1::·):=rfl
theorem esc_ne (x:UInt8):esc x ≠ []:=by
 have:=(zli x).2
 intro h; rw [h] at this; simp at this
theorem undo_body:∀ (t:Str) (n:Nat),t.length≤n→undo n (body t)=some t
 | [],n,_=>zh7 n
 | x::t,0,h=>by simp at h
 | x::t,n+1,h=>by
  rw [zb9]
  have hs:=ziu x (body t)
  have hne:esc x++body t ≠ []:=fun h=>esc_ne x (List.append_eq_nil_iff.1 h).1
  obtain ⟨c,r,hb⟩:=List.exists_cons_of_ne_nil hne
  rw [hb] at hs ⊢
  rw [zfh,hs,Option.bind_some,undo_body t n (by simpa using h)]; rfl
theorem zjU:∀ (n:Nat) (r t:Str),undo n r=some t→body t=r
 | n,[],t,h=>by
  rw [zh7] at h
  obtain rfl:=Option.some.inj h
  rfl
 | 0,c::r,t,h=>by rw [undo_zero] at h; cases h
 | n+1,c::r,t,h=>by
  rw [zfh] at h
  obtain ⟨p,hs,h⟩:=Option.bind_eq_some_iff.1 h
  obtain ⟨t2,hu,h⟩:=Option.map_eq_some_iff.1 h
  rw [← h,zb9,zjU n p.2 t2 hu]
  exact (sym_spec (x:=p.1) (r2:=p.2) hs).symm
theorem sym_len {r r2:Str} {x:UInt8} (h:sym r=some (x,r2)):r2.length < r.length:=by
 have:=sym_spec h
 have hl:=(zli x).2
 rw [this,List.length_append]; omega
theorem zij {α β:Type} {o:Option α} {f g:α→Option β} (h:∀ p,o=some p→f p=g p):o.bind f=o.bind g:=by
 cases o with
 | none=>rfl
 | some p=>exact h p rfl
theorem zgh:∀ (n:Nat) (r:Str),r.length≤n→undo n r=undo r.length r
 | n,[],_=>by rw [zh7,zh7]
 | 0,c::r,h=>by simp at h
 | n+1,c::r,h=>by
  rw [List.length_cons,zfh,zfh]
  refine zij fun p hs=>?_
  have hl:=sym_len (x:=p.1) (r2:=p.2) hs
  rw [List.length_cons] at hl h
  rw [zgh n p.2 (by omega),zgh r.length p.2 (by omega)]
def zhW (r:Str):Option Str:=undo r.length r
theorem undoF_step {c:UInt8} {r:Str}:zhW (c::r)=(sym (c::r)).bind fun p=>(zhW p.2).map (p.1::·):=by
 unfold zhW
 rw [List.length_cons,zfh]
 refine zij fun p hs=>?_
 have hl:=sym_len (x:=p.1) (r2:=p.2) hs
 rw [List.length_cons] at hl
 rw [zgh r.length p.2 (by omega)]
theorem body_ge (t:Str):t.length≤(body t).length:=by
 induction t with
 | nil=>simp
 | cons c t ih =>
  have:=(zli c).2
  rw [zb9,List.length_append,List.length_cons]
  omega
theorem zjV (t:Str):zhW (body t)=some t:=undo_body t _ (body_ge t)
theorem ziq {r t:Str} (h:zhW r=some t):body t=r:=zjU _ _ _ h
def fin (o:Option Str):Str × Int:=match o with
 | some t=>(t,0)
 | none=>([],8)
def mid (s:Str):Str:=(s.drop 1).take (s.length - 2)
def zf2 (s:Str):Bool:=!((decide ((s.length:Int) < 2) || !decide (((s.getD 0 0).toNat:Int)=34)) || !decide (((s.getD (s.length - 1) 0).toNat:Int)=34))
def unqS (s:Str):Str × Int:=bif zf2 s then fin (zhW (mid s)) else ([],8)
theorem zk8 (s:Str) (h:2≤s.length) (h2:s.length≤17179869184):IntKind.i64.wrap ((s.length:Int) - 1)=((s.length - 1:Nat):Int):=wrapm1 _ (by omega) (by omega)
theorem zjh (s:Str) (hs:s.length≤17179869184):zct s=some (unqS s):=by
 unfold zct unqS zf2
 obtain ⟨N,hN⟩:∃ N,zc4=N:=⟨_,rfl⟩
 have hN2:1099511627776≤N:=hN ▸ zbQ
 rw [hN]
 clear hN
 by_cases h2:2≤s.length
 rotate_left
 ·rw [show decide ((s.length:Int) < 2)=true by simp; omega]
  simp only [Bool.not_true,Bool.true_or]
  rw [zg (by intro h; cases h),zg (by intro h; cases h)]
  rfl
 rw [show decide ((s.length:Int) < 2)=false by simp; omega]
 rw [zk8 s h2 hs]
 simp only [Bool.false_or,Int.toNat_natCast]
 rw [zg (by intro _; omega),zg (by intro _; omega)]
 generalize (!decide (((s.getD 0 0).toNat:Int)=34) || !decide (((s.getD (s.length - 1) 0).toNat:Int)=34))=q
 cases q
 rotate_left
 ·rfl
 have hm:List.take (s.length - 1 - 1) (List.drop 1 s)=mid s:=by unfold mid; congr 1
 simp only [cond_false,Bool.not_false,cond_true,hm,zaY]
 have hml:(mid s).length=s.length - 2:=by simp [mid]; omega
 rw [zg (by omega),zg (by omega)]
 refine (zbM (S:=Int × List Int) (fun st=>∃ i:Nat,st.1=i∧i≤(mid s).length∧st.2.length≤i) (fun st=>(mid s).length - st.1.toNat) (fun st=>some (fin ((zhW ((mid s).drop st.1.toNat)).map (Go.Vc.strOf st.2++·)))) ?_ N _ ⟨0,rfl,by omega,by simp⟩ (by simp only; omega)).trans ?_
 ·rintro ⟨i',o⟩ nx ⟨i,rfl,hi,ho⟩ hnx
  simp only at ho hnx ⊢
  by_cases hlt:i < (mid s).length
  ·rw [decide_eq_true (by omega),cond_true,zcG hlt]
   simp only [Int.toNat_natCast]
   rw [List.drop_eq_getElem_cons hlt,undoF_step]
   generalize hcc:(mid s)[i]=c
   rw [show ((decide ((c.toNat:Int) < 32) || decide (126 < (c.toNat:Int))) || decide ((c.toNat:Int)=34))=(zgr c || decide ((c.toNat:Int)=34)) from rfl]
   simp only [sym]
   cases hf:zgr c || decide ((c.toNat:Int)=34)
   ·simp only [cond_false]
    cases hb:decide ((c.toNat:Int)=92)
    ·simp only [cond_false]
     rw [zd2 i (by omega),zg (by simp; omega),hnx _ ⟨i+1,rfl,by omega,by simp; omega⟩ (by simp only [Int.toNat_natCast]; omega)]
     simp only [Int.toNat_natCast]
     rw [Option.bind_some]
     cases zhW ((mid s).drop (i+1)) with
     | none=>rfl
     | some t=>simp only [Option.map_some,zbn,zcn,zc9,u8i]; simp [fin]
    ·simp only [cond_true]
     rw [zd2 i (by omega),zg (by omega)]
     simp only [Int.toNat_natCast,zjN,zd]
     have hbd:=escR_bd ((mid s).drop (i+1))
     rw [List.length_drop] at hbd
     generalize hE:zig ((mid s).drop (i+1))=E at hbd
     obtain ⟨x,n⟩:=E
     simp only at hbd ⊢
     cases hz:decide (n=0)
     ·simp only [cond_false]
      have hn0:n ≠ 0:=of_decide_eq_false hz
      rw [zg (by simp; omega),zah (n:=(i:Int)+n) (by omega) (by omega),zah (n:=(i:Int)+n+1) (by omega) (by omega)]
      have e:(i:Int)+n+1=((i+n.toNat+1:Nat):Int):=by omega
      rw [e,hnx _ ⟨i+n.toNat+1,rfl,by omega,by simp; omega⟩ (by simp only [Int.toNat_natCast]; omega)]
      simp only [Int.toNat_natCast,List.drop_drop]
      rw [show i+1+n.toNat=i+n.toNat+1 by omega]
      rw [Option.bind_some]
      simp only
      cases zhW ((mid s).drop (i+n.toNat+1)) with
      | none=>rfl
      | some t=>simp only [Option.map_some,zbn,zcn,zc9]; simp [fin]
     ·rfl
   ·rfl
  ·obtain rfl:i=(mid s).length:=by omega
   rw [decide_eq_false (by omega),cond_false,Int.toNat_natCast,List.drop_length]
   show _=some (Go.Vc.strOf o++[],(0:Int))
   rw [List.append_nil]
 ·simp only [Int.toNat_zero,List.drop_zero,List.replicate]
  cases zhW (mid s) with
  | none=>rfl
  | some t=>rfl
def hexw (h l:UInt8):Int:=IntKind.u8.wrap (IntKind.i64.wrap ((IntKind.i64.wrap (zhb h * 16))+zhb l))
def isEsc' (c:UInt8):Bool:=decide ((c.toNat:Int)=34) || decide ((c.toNat:Int)=92)
theorem isEsc'_eq (c:UInt8):isEsc' c=zen c:=Bool.or_comm _ _
def zi1:Str→Option (Int × Str)
 | d::r=>bif isEsc' d then some ((d.toNat:Int),r) else bif decide ((d.toNat:Int)=110) then some (10,r) else bif decide ((d.toNat:Int)=120) then (match r with
  | h::l::r'=>some (hexw h l,r')
  | _=>none) else none
 | []=>none
def lsym:Str→Option (Int × Str)
 | []=>none
 | c::r=>bif !decide ((c.toNat:Int)=92) then some ((c.toNat:Int),r) else zi1 r
theorem hexw_eq (m n:Nat) (hm:m < 16) (hn:n < 16):hexw (zkk m) (zkk n)=16 * m+n:=by
 unfold hexw
 rw [zez m hm,zez n hn,zah (n:=(m:Int) * 16) (by omega) (by omega),zah (n:=(m:Int) * 16+n) (by omega) (by omega),wrapB _ (by omega) (by omega)]
 omega
theorem lsym_esc (x:UInt8) (r:Str):lsym (esc x++r)=some ((x.toNat:Int),r):=by
 unfold esc
 cases h1:zen x
 ·cases h2:decide ((x.toNat:Int)=10)
  ·cases h3:zgr x
   ·simp only [cond_false,List.cons_append,List.nil_append,lsym]
    unfold zen at h1
    simp only [Bool.or_eq_false_iff] at h1
    rw [h1.1]; rfl
   ·simp only [cond_false,cond_true,List.cons_append,List.nil_append,lsym]
    have a1:=hi4_lt x
    have a2:=lo4_lt x
    show some (hexw (zkk (x.toNat / 16)) (zkk (x.toNat % 16)),r)=_
    rw [hexw_eq _ _ a1 a2]
    congr 2
    omega
  ·simp only [cond_false,cond_true,List.cons_append,List.nil_append]
   have h:=of_decide_eq_true h2
   rw [h]; rfl
 ·simp only [cond_true,List.cons_append,List.nil_append,lsym]
  show zi1 (x::r)=_
  simp only [zi1,isEsc'_eq,h1,cond_true]
theorem lsym_len {r:Str} {p:Int × Str} (h:lsym r=some p):p.2.length < r.length:=by
 cases r with
 | nil=>cases h
 | cons c r =>
  simp only [lsym] at h
  cases hc:!decide ((c.toNat:Int)=92)
  ·rw [hc,cond_false] at h
   cases r with
   | nil=>cases h
   | cons d r =>
    simp only [zi1] at h
    cases h1:isEsc' d
    ·rw [h1,cond_false] at h
     cases h2:decide ((d.toNat:Int)=110)
     ·rw [h2,cond_false] at h
      cases h3:decide ((d.toNat:Int)=120)
      ·rw [h3,cond_false] at h; cases h
      ·rw [h3,cond_true] at h
       rcases r with _ | ⟨a,_ | ⟨b,r⟩⟩
       ·cases h
       ·cases h
       ·have:=(Option.some.inj h).symm
        rw [this]; simp only [List.length_cons]; omega
     ·rw [h2,cond_true] at h
      have:=(Option.some.inj h).symm
      rw [this]; simp only [List.length_cons]; omega
    ·rw [h1,cond_true] at h
     have:=(Option.some.inj h).symm
     rw [this]; simp only [List.length_cons]; omega
  ·rw [hc,cond_true] at h
   have:=(Option.some.inj h).symm
   rw [this]; simp only [List.length_cons]; omega
def lund:Nat→Str→List Int→Option (List Int)
 | n,[],o=>some o
 | 0,_::_,_=>none
 | n+1,c::r,o=>(lsym (c::r)).bind fun p=>lund n p.2 (o++[p.1])
theorem zk2 (n:Nat) (o:List Int):lund n [] o=some o:=by cases n <;> rfl
theorem zi0 (n:Nat) (c:UInt8) (r:Str) (o:List Int):lund (n+1) (c::r) o=(lsym (c::r)).bind fun p=>lund n p.2 (o++[p.1]):=rfl
theorem zgq:∀ (n:Nat) (r:Str) (o:List Int),r.length≤n→lund n r o=lund r.length r o
 | n,[],o,_=>by rw [zk2,zk2]
 | 0,c::r,o,h=>by simp at h
 | n+1,c::r,o,h=>by
  rw [List.length_cons,zi0,zi0]
  refine zij fun p hs=>?_
  have hl:=lsym_len hs
  rw [List.length_cons] at hl h
  rw [zgq n p.2 _ (by omega),zgq r.length p.2 _ (by omega)]
def lundF (r:Str) (o:List Int):Option (List Int):=lund r.length r o
theorem zkg {c:UInt8} {r:Str} {o:List Int}:lundF (c::r) o=(lsym (c::r)).bind fun p=>lundF p.2 (o++[p.1]):=by
 unfold lundF
 rw [List.length_cons,zi0]
 refine zij fun p hs=>?_
 have hl:=lsym_len hs
 rw [List.length_cons] at hl
 rw [zgq r.length p.2 _ (by omega)]
theorem zkh:∀ (t:Str) (o:List Int),lundF (body t) o=some (o++zbC t)
 | [],o=>by rw [show body []=[] from rfl]; simp [lundF,zk2,zbC]
 | x::t,o=>by
  rw [zb9]
  have hs:=lsym_esc x (body t)
  have hne:esc x++body t ≠ []:=fun h=>esc_ne x (List.append_eq_nil_iff.1 h).1
  obtain ⟨c,r,hb⟩:=List.exists_cons_of_ne_nil hne
  rw [hb] at hs ⊢
  rw [zkg,hs,Option.bind_some,zkh t]
  simp [zbC]
theorem strOf_bytes (t:Str):Go.Vc.strOf (zbC t)=t:=zeO t
theorem ziG (s:Str) (h:zf2 s=true):s=34::(mid s++[34]):=by
 unfold zf2 at h
 simp only [Bool.not_eq_true',Bool.or_eq_false_iff,decide_eq_false_iff_not,Bool.not_eq_false',decide_eq_true_eq] at h
 obtain ⟨⟨h1,h2⟩,h3⟩:=h
 rcases s with _ | ⟨c,r⟩
 ·simp at h1
 have hr:r ≠ []:=by rintro rfl; simp at h1
 have hc:c=34:=by
  have:c.toNat=34:=by rw [List.getD_cons_zero] at h2; omega
  exact UInt8.toNat_inj.1 this
 have hrl:0 < r.length:=List.length_pos_iff.2 hr
 have hl:r.getLast hr=34:=by
  rw [show (c::r).length - 1=(r.length - 1)+1 by simp; omega,List.getD_cons_succ,List.getD_eq_getElem?_getD,List.getElem?_eq_getElem (by omega),Option.getD_some] at h3
  rw [List.getLast_eq_getElem]
  have:(r[r.length - 1]'(by omega)).toNat=34:=by omega
  exact UInt8.toNat_inj.1 this
 have hm:mid (c::r)=r.dropLast:=by
  unfold mid
  rw [List.dropLast_eq_take]
  simp
 rw [hm,hc]
 congr 1
 rw [← hl]
 exact (List.dropLast_concat_getLast hr).symm
theorem two_get (c d:UInt8) (r:Str):(c::d::r).getD 1 0=d:=rfl
theorem zhT (s:Str) (hs:s.length≤17179869184):zdY s=some (unqS s):=by
 unfold zdY unqS
 obtain ⟨N,hN⟩:∃ N,zc4=N:=⟨_,rfl⟩
 have hN2:1099511627776≤N:=hN ▸ zbQ
 rw [hN]
 clear hN
 cases hq:zf2 s
 ·unfold zf2 at hq
  simp only [Bool.not_eq_false'] at hq
  by_cases h2:2≤s.length
  ·rw [show decide ((s.length:Int) < 2)=false by simp; omega] at hq ⊢
   rw [zk8 s h2 hs]
   simp only [Bool.false_or,Int.toNat_natCast] at hq ⊢
   rw [zg (by intro _; omega),zg (by intro _; omega),hq]
   rfl
  ·rw [show decide ((s.length:Int) < 2)=true by simp; omega]
   simp only [Bool.not_true,Bool.true_or]
   rw [zg (by intro h; cases h),zg (by intro h; cases h)]
   rfl
 have hsp:=ziG s hq
 unfold zf2 at hq
 simp only [Bool.not_eq_true'] at hq
 have h2:2≤s.length:=by
  simp only [Bool.or_eq_false_iff,decide_eq_false_iff_not] at hq
  omega
 rw [show decide ((s.length:Int) < 2)=false by simp; omega] at hq ⊢
 rw [zk8 s h2 hs]
 simp only [Bool.false_or,Int.toNat_natCast] at hq ⊢
 rw [zg (by intro _; omega),zg (by intro _; omega),hq]
 have hm:List.take (s.length - 1 - 1) (List.drop 1 s)=mid s:=by unfold mid; congr 1
 have hml:(mid s).length=s.length - 2:=by simp [mid]; omega
 simp only [cond_false,cond_true,hm,zaY]
 rw [zg (by omega)]
 refine (zbM (S:=Str × List Int) (fun st=>st.2.length+st.1.length≤s.length) (fun st=>st.1.length) (fun st=>match lundF st.1 st.2 with
   | some o=>bif !decide (zaD (Go.Vc.strOf o)=s) then some (([]:Str),(8:Int)) else some (Go.Vc.strOf o,0)
   | none=>some ([],8)) ?_ N _ (by simp only [List.length_nil]; omega) (by simp only; omega)).trans ?_
 ·rintro ⟨b,o⟩ nx hi hnx
  dsimp +instances only at hi hnx ⊢
  cases b with
  | nil =>
   simp only [show decide (([]:Str)=[])=true from rfl,Bool.not_true,cond_false]
   rw [zky _ (by simp [Go.Vc.strOf]; simp at hi; omega),zd]
   rfl
  | cons c r =>
   simp only [show decide (c::r=([]:Str))=false from rfl,Bool.not_false,cond_true]
   rw [show zd1 (c::r) 0=zd1 (c::r) ((0:Nat):Int) from rfl,zcG (by simp)]
   simp only [List.getElem_cons_zero]
   rw [zkg]
   simp only [List.length_cons] at hi
   cases hc:!decide ((c.toNat:Int)=92)
   ·simp only [cond_false]
    cases r with
    | nil =>
     simp only [List.length_cons,List.length_nil]
     rw [zg (by intro h; simp at h),zg (by intro h; simp at h)]
     simp only [show decide ((2:Int)≤((0+1:Nat):Int))=false from rfl,show decide ((4:Int)≤((0+1:Nat):Int))=false from rfl,Bool.false_and,cond_false]
     rw [zg (by intro h; cases h),zg (by intro h; cases h)]
     simp only [lsym,hc,cond_false,zi1]
     rfl
    | cons d r =>
     rw [show decide ((2:Int)≤((c::d::r).length:Int))=true by simp; omega]
     dsimp +instances only [two_get]
     simp only [Bool.true_and]
     rw [zg (by intro h; simp; omega),zg (by intro h; simp; omega)]
     rw [show (decide ((d.toNat:Int)=34) || decide ((d.toNat:Int)=92))=isEsc' d from rfl]
     simp only [List.length_cons] at hi
     cases h1:isEsc' d
     ·simp only [cond_false]
      rw [zg (by intro h; simp; omega)]
      cases h3:decide ((d.toNat:Int)=110)
      ·simp only [cond_false]
       rw [zg (by intro h; simp; omega)]
       cases h4:decide ((d.toNat:Int)=120)
       ·simp only [Bool.and_false,cond_false,lsym,hc,zi1,h1,h3,h4]
        rfl
       ·simp only [Bool.and_true]
        rcases r with _ | ⟨a,_ | ⟨e,r⟩⟩
        ·simp only [show decide ((4:Int)≤(([c,d]:Str).length:Int))=false from rfl,cond_false,lsym,hc,zi1,h1,h3,h4,cond_true]
         rfl
        ·simp only [show decide ((4:Int)≤(([c,d,a]:Str).length:Int))=false from rfl,cond_false,lsym,hc,zi1,h1,h3,h4,cond_true]
         rfl
        ·rw [show decide ((4:Int)≤((c::d::a::e::r).length:Int))=true by simp; omega,cond_true]
         rw [zg (by simp; omega)]
         rw [show List.take (3 - 2) (List.drop 2 (c::d::a::e::r))=[a] from rfl,show List.take (4 - 3) (List.drop 3 (c::d::a::e::r))=[e] from rfl]
         rw [show ([48,49,50,51,52,53,54,55,56,57,97,98,99,100,101,102]:Str)=HX from rfl,zif,zif,zd,zg (by simp; omega),zd]
         rw [show IntKind.u8.wrap (IntKind.i64.wrap (IntKind.i64.wrap (ixb HX a * 16)+ixb HX e))=hexw a e from rfl]
         simp only [List.length_cons] at hi
         rw [zg (by simp; omega),zg (by simp; omega),hnx _ (by simp; omega) (by simp; omega)]
         simp only [cond_false,lsym,hc,zi1,h1,h3,h4,cond_true,Option.bind_some]
         rfl
      ·simp only [cond_true]
       rw [zg (by simp; omega),zg (by simp; omega),hnx _ (by simp; omega) (by simp; omega)]
       simp only [cond_false,lsym,hc,zi1,h1,h3,cond_true,Option.bind_some]
       rfl
     ·simp only [cond_true]
      rw [show zd1 (c::d::r) 1=zd1 (c::d::r) ((1:Nat):Int) from rfl,zcG (by simp)]
      simp only [List.getElem_cons_succ,List.getElem_cons_zero]
      rw [zg (by simp; omega),zg (by simp; omega),hnx _ (by simp; omega) (by simp; omega)]
      simp only [cond_false,lsym,hc,zi1,h1,cond_true,Option.bind_some]
      rfl
   ·simp only [cond_true]
    rw [zg (by simp; omega),zg (by simp; omega),hnx _ (by simp; omega) (by simp)]
    simp only [lsym,hc,cond_true,Option.bind_some]
    rfl
 ·simp only [Bool.not_false,cond_true]
  cases hu:zhW (mid s) with
  | some t =>
   have hb:=ziq hu
   rw [← hb,zkh,List.nil_append]
   simp only [strOf_bytes]
   have:zaD t=s:=by
    unfold zaD
    rw [hb]; exact hsp.symm
   rw [this]
   simp only [decide_true,Bool.not_true,cond_false,fin]
  | none =>
   cases hl:lundF (mid s) [] with
   | none=>rfl
   | some o =>
    have:zaD (Go.Vc.strOf o) ≠ s:=by
     intro h
     rw [hsp] at h
     unfold zaD at h
     have h':=(List.cons.inj h).2
     have hb:=List.append_cancel_right h'
     rw [← hb,zjV] at hu
     cases hu
    simp only [decide_eq_false this,Bool.not_false,cond_true,fin]
theorem wrapU (n:Nat) (h:n < 18446744073709551616):IntKind.u64.wrap (n:Int)=n:=by
 unfold IntKind.wrap
 simp only [IntKind.bits,IntKind.signed,Bool.false_and,Bool.false_eq_true,if_false]
 omega
theorem wrapU8 (n:Int):IntKind.u8.wrap n=n % 256:=by
 unfold IntKind.wrap
 simp only [IntKind.bits,IntKind.signed,Bool.false_and,Bool.false_eq_true,if_false]
 omega
theorem wrapU_range (n:Int):∃ m:Nat,IntKind.u64.wrap n=m∧m < 18446744073709551616:=by
 refine ⟨(n % 18446744073709551616).toNat,?_,by omega⟩
 unfold IntKind.wrap
 simp only [IntKind.bits,IntKind.signed,Bool.false_and,Bool.false_eq_true,if_false]
 omega
theorem shr_eq (n c:Nat) (k:IntKind) (hc:c≤k.bits):Int.fdiv (n:Int) (2 ^ (shI k (c:Int)))=((n / 2 ^ c:Nat):Int):=by
 have:shI k (c:Int)=c:=by unfold shI; simp; omega
 rw [this,Int.fdiv_eq_ediv_of_nonneg _ (Int.le_of_lt (Int.pow_pos (by decide)))]
 rw [Int.natCast_ediv,Int.natCast_pow]; rfl
theorem and_mask (n c m:Nat) (h:n < 18446744073709551616) (hm:m=2 ^ c - 1) (hc:c < 64):zaz .and .u64 (n:Int) (m:Int)=((n % 2 ^ c:Nat):Int):=by
 subst hm
 have h1:2 ^ c≤2 ^ 63:=Nat.pow_le_pow_right (by decide) (by omega)
 show IntKind.u64.wrap (((BitVec.ofInt 64 (n:Int) &&& BitVec.ofInt 64 ((2 ^ c - 1:Nat):Int)).toNat:Nat):Int)=_
 rw [BitVec.toNat_and,BitVec.toNat_ofInt,BitVec.toNat_ofInt]
 have e1:((n:Int) % ((2 ^ 64:Nat):Int)).toNat=n:=by omega
 have e2:(((2 ^ c - 1:Nat):Int) % ((2 ^ 64:Nat):Int)).toNat=2 ^ c - 1:=by omega
 rw [e1,e2,Nat.and_two_pow_sub_one_eq_mod]
 exact wrapU _ (Nat.lt_of_le_of_lt (Nat.mod_le _ _) h)
theorem zjb {Z S α:Type} (g:S→α→S) (k:S→Option Z):∀ (l:List α) (i:Nat) (s:S),forL l i (fun _ c s nx _=>nx (g s c)) s k=k (l.foldl g s)
 | [],_,_=>rfl
 | x::l,i,s=>by
  unfold forL
  exact zjb g k l (i+1) (g s x)
theorem zkI {α:Type} (n i:Nat) (f:Nat→α) (v:α):((List.range n).map f).set i v=(List.range n).map (fun j=>if j=i then v else f j):=by
 apply List.ext_getElem
 ·simp
 ·intro j h1 h2
  simp only [List.getElem_set,List.getElem_map,List.getElem_range]
  by_cases h:i=j
  ·subst h; simp
  ·rw [if_neg h,if_neg (Ne.symm h)]
theorem strOf_map {α:Type} (l:List α) (f:α→UInt8):Go.Vc.strOf (l.map fun x=>((f x).toNat:Int))=l.map f:=by
 unfold Go.Vc.strOf
 simp
def HXs:Str:=[48,49,50,51,52,53,54,55,56,57,97,98,99,100,101,102]
def D36:Str:=[48,49,50,51,52,53,54,55,56,57,97,98,99,100,101,102,103,104,105,106,107,108,109,110,111,112,113,114,115,116,117,118,119,120,121,122]
def dg (n:Nat):UInt8:=HXs.getD n 0
def hx:Nat→Nat→Str
 | 0,_=>[]
 | k+1,n=>hx k (n / 16)++[dg (n % 16)]
def zlb (h:Int) (c:UInt8):Int:=IntKind.u64.wrap ((zaz .xor .u64 h (IntKind.u64.wrap (c.toNat:Int))) * 1099511628211)
def hashZ (s:Str):Int:=s.foldl zlb 14695981039346656037
def zaC (s:Str):Str:=hx 16 (hashZ s).toNat
theorem hashZ_nat (s:Str):∃ n:Nat,hashZ s=n∧n < 18446744073709551616:=by
 have:∀ (s:Str) (h:Int),(∃ n:Nat,h=n∧n < 18446744073709551616)→∃ n:Nat,s.foldl zlb h=n∧n < 18446744073709551616:=by
  intro s
  induction s with
  | nil=>exact fun h hh=>hh
  | cons c s ih=>exact fun h _=>ih _ (wrapU_range _)
 exact this s _ ⟨14695981039346656037,rfl,by decide⟩
theorem zgZ:∀ (k n:Nat),(hx k n).length=k
 | 0,_=>rfl
 | k+1,n=>by simp [hx,zgZ k]
theorem zar (s:Str):(zaC s).length=16:=zgZ _ _
theorem dg_d36:∀ m:Fin 16,D36.getD m.val 0=dg m.val:=by decide
theorem idx_hx {Z:Type} (m:Nat) (h:m < 16) (k:Int→Option Z):zd1 HXs (m:Int) k=k ((dg m).toNat:Int):=by
 rw [zcG (by simpa [HXs] using h)]
 simp only [dg,List.getD_eq_getElem?_getD,List.getElem?_eq_getElem (show m < HXs.length by simpa [HXs] using h),Option.getD_some]
theorem idx_d36 {Z:Type} (m:Nat) (h:m < 16) (k:Int→Option Z):zd1 D36 (m:Int) k=k ((dg m).toNat:Int):=by
 have hl:m < D36.length:=by simp [D36]; omega
 rw [zcG hl,← dg_d36 ⟨m,h⟩]
 simp only [List.getD_eq_getElem?_getD,List.getElem?_eq_getElem hl,Option.getD_some]
theorem hx16 (n:Nat):(List.range 16).map (fun j=>dg (n / 2 ^ (60 - 4 * j) % 16))=hx 16 n:=by
 simp only [hx,List.range,List.range.loop,List.map_cons,List.map_nil,Nat.div_div_eq_div_mul,List.nil_append,List.cons_append]
 simp
theorem zeV (s:Str):zdC s=some (zaC s):=by
 obtain ⟨n,hn,hlt⟩:=hashZ_nat s
 unfold zdC
 obtain ⟨N,hN⟩:∃ N,zc4=N:=⟨_,rfl⟩
 have hF:1099511627776≤N:=hN ▸ zbQ
 rw [hN]
 show forL s 0 (fun _ c h nx _=>nx (zlb h c)) 14695981039346656037 _=_
 rw [zjb]
 show jp _ (fun k_27=>loopN N _ _ _)=_
 rw [show s.foldl zlb 14695981039346656037=(n:Int) from hn]
 unfold jp
 let arr:=fun i:Nat=>(List.range 16).map fun j=>if j < i then ((dg (n / 2 ^ (60 - 4 * j) % 16)).toNat:Int) else 0
 refine (zbM (fun s=>∃ i:Nat,s.1=(i:Int)∧i≤16∧s.2=arr i) (fun s=>16 - s.1.toNat) (fun _=>some (zaC s)) ?_ N _ ⟨0,rfl,by omega,?_⟩ (by show 16 - Int.toNat 0 < N; simp; omega)).trans rfl
 ·rintro ⟨t,o⟩ nx ⟨i,h1,hi,h2⟩ hnx
  obtain rfl:t=i:=h1
  obtain rfl:o=arr i:=h2
  simp only [List.length_replicate]
  by_cases h:i < 16
  ·rw [bif_t (decide_eq_true (by omega))]
   have e1:IntKind.i64.wrap (60 - IntKind.i64.wrap (4 * (i:Int)))=((60 - 4 * i:Nat):Int):=by
    rw [zah (n:=4 * (i:Int)) (by omega) (by omega),zah (by omega) (by omega)]; omega
   rw [e1,zg (by omega),shr_eq _ _ _ (by simp only [IntKind.bits]; omega)]
   rw [show (15:Int)=((15:Nat):Int) from rfl,and_mask _ 4 15 (Nat.lt_of_le_of_lt (Nat.div_le_self _ _) hlt) (by decide) (by decide)]
   show zd1 HXs _ _=_
   rw [idx_hx _ (Nat.mod_lt _ (by decide)),zg (by simp [arr]; omega),zd2 i (by omega)]
   refine hnx _ ⟨i+1,rfl,by omega,?_⟩ ?_
   ·show List.set (arr i) (Int.toNat (i:Int)) _=_
    rw [Int.toNat_natCast]
    show ((List.range 16).map _).set i _=(List.range 16).map _
    rw [zkI]
    apply List.map_congr_left
    intro j _
    by_cases hj:j=i
    ·subst hj; rw [if_pos rfl,if_pos (by omega)]
    ·rw [if_neg hj]
     by_cases hj':j < i
     ·rw [if_pos hj',if_pos (by omega)]
     ·rw [if_neg hj',if_neg (by omega)]
   ·show 16 - Int.toNat ((i+1:Nat):Int) < 16 - Int.toNat (i:Int)
    rw [Int.toNat_natCast,Int.toNat_natCast]; omega
  ·rw [zfV (decide_eq_false (by omega))]
   obtain rfl:i=16:=by omega
   show some (Go.Vc.strOf (arr 16))=_
   have:arr 16=(List.range 16).map fun j=>((dg (n / 2 ^ (60 - 4 * j) % 16)).toNat:Int):=by
    apply List.map_congr_left
    intro j hj
    rw [if_pos (List.mem_range.1 hj)]
   rw [this,strOf_map,hx16]
   unfold zaC
   rw [hn]; rfl
 ·show List.replicate 16 (0:Int)=_
  apply List.ext_getElem
  ·simp [arr]
  ·intro j h1 h2
   rw [List.getElem_replicate]
   simp only [arr,List.getElem_map,List.getElem_range]
   rfl
def fm:Nat→Nat→Str
 | 0,n=>[dg n]
 | k+1,n=>if n < 16 then [dg n] else fm k (n / 16)++[dg (n % 16)]
theorem hx_zero:∀ k:Nat,hx k 0=List.replicate k 48
 | 0=>rfl
 | k+1=>by
  show hx k (0 / 16)++[dg (0 % 16)]=_
  rw [Nat.zero_div,hx_zero k,List.replicate_succ']; rfl
theorem fm_len:∀ k n:Nat,1≤(fm k n).length∧(fm k n).length≤k+1
 | 0,n=>by simp [fm]
 | k+1,n=>by
  have:=fm_len k (n / 16)
  simp only [fm]
  split <;> simp <;> omega
theorem fm_pad:∀ k n:Nat,n < 16 ^ (k+1)→List.replicate (k+1 - (fm k n).length) 48++fm k n=hx (k+1) n
 | 0,n,h=>by
  have:n % 16=n:=Nat.mod_eq_of_lt (by simpa using h)
  simp [fm,hx,this]
 | k+1,n,h=>by
  have hl:=fm_len k (n / 16)
  simp only [fm]
  split
  ·rename_i h16
   have e1:n / 16=0:=Nat.div_eq_of_lt h16
   have e2:n % 16=n:=Nat.mod_eq_of_lt h16
   show _=hx (k+1) (n / 16)++[dg (n % 16)]
   rw [e1,e2,hx_zero]; rfl
  ·have ih:=fm_pad k (n / 16) (by rw [Nat.pow_succ] at h; omega)
   show _=hx (k+1) (n / 16)++[dg (n % 16)]
   rw [← ih,List.length_append,List.append_assoc]
   congr 2
   simp
theorem tz16:zaS (IntKind.u64.wrap 16)=some 4:=by decide +kernel
theorem pow16:zal 16=some true:=by decide +kernel
theorem set_drop (l:List Int) (i:Nat) (v:Int) (h:i < l.length):(l.set i v).drop i=v::l.drop (i+1):=by
 rw [List.drop_set]
 simp only [Nat.lt_irrefl,if_false,Nat.sub_self]
 rw [List.drop_eq_getElem_cons h]
 rfl
theorem ziv (v:UInt8) (l:List Int):Go.Vc.strOf ((v.toNat:Int)::l)=v::Go.Vc.strOf l:=by simp [Go.Vc.strOf]
theorem formatBits16 (n:Nat) (h:n < 18446744073709551616):zad [] (n:Int) 16 false false=some ([],fm 15 n):=by
 unfold zad
 obtain ⟨N,hN⟩:∃ N,zc4=N:=⟨_,rfl⟩
 have hF:1099511627776≤N:=hN ▸ zbQ
 rw [hN]
 simp only [pow16,tz16,zd,jp,cond_true,cond_false,show decide ((16:Int) < 2)=false from rfl,show decide ((16:Int)=10)=false from rfl,show decide ((36:Int) < 16)=false from rfl,Bool.or_self]
 have hw:IntKind.u64.wrap 16=16:=by decide
 have hw4:IntKind.u64.wrap 4=((4:Nat):Int):=by decide
 have hw15:IntKind.u64.wrap (16 - 1)=((15:Nat):Int):=by decide
 rw [hw,hw4,hw15]
 refine (zbM (fun s=>∃ m j:Nat,s.1=(m:Int)∧s.2.1=(j:Int)∧j≤65∧50≤j∧m < 16 ^ (j - 49)∧s.2.2.length=65∧fm 15 n=fm (j - 50) m++Go.Vc.strOf (s.2.2.drop j)) (fun s=>s.2.1.toNat) (fun _=>some ([],fm 15 n)) ?_ N _ ⟨n,65,rfl,rfl,by omega,by omega,by omega,by simp,by simp [Go.Vc.strOf]⟩ (by show Int.toNat 65 < N; simp; omega))
 rintro ⟨u,i,o⟩ nx ⟨m,j,h1,h2,hj,hj',hm,hl,hf⟩ hnx
 obtain rfl:u=m:=h1
 obtain rfl:i=j:=h2
 simp only
 simp only at hl hf
 have hmlt:m < 18446744073709551616:=Nat.lt_of_lt_of_le hm (Nat.le_trans (Nat.pow_le_pow_right (by decide) (show j - 49≤16 by omega)) (by decide))
 have e1:IntKind.i64.wrap ((j:Int) - 1)=((j - 1:Nat):Int):=wrapm1 j (by omega) (by omega)
 rw [e1]
 by_cases hc:16≤m
 ·rw [bif_t (decide_eq_true (by omega)),and_mask m 4 15 hmlt (by decide) (by decide)]
  show zd1 D36 _ _=_
  rw [idx_d36 _ (Nat.mod_lt _ (by decide)),zg (by omega),zg (by omega),shr_eq m 4 .u64 (by decide)]
  have h50:50 < j:=by
   rcases Nat.lt_or_ge 50 j with h' | h'
   ·exact h'
   ·exfalso
    obtain rfl:j=50:=by omega
    simp at hm; omega
  refine hnx _ ⟨m / 16,j - 1,rfl,rfl,by omega,by omega,?_,by simpa using hl,?_⟩ (by show Int.toNat _ < Int.toNat _; rw [Int.toNat_natCast,Int.toNat_natCast]; omega)
  ·have:16 ^ (j - 49)=16 ^ (j - 1 - 49) * 16:=by rw [← Nat.pow_succ]; congr 1; omega
   rw [this] at hm
   omega
  ·rw [hf,Int.toNat_natCast]
   rw [show j - 50=(j - 1 - 50)+1 by omega]
   simp only [fm]
   rw [if_neg (by omega),set_drop _ _ _ (by omega),ziv,show j - 1+1=j by omega,List.append_assoc]
   rfl
 ·rw [zfV (decide_eq_false (by omega))]
  show zd1 D36 _ _=_
  rw [idx_d36 m (by omega),zg (by omega)]
  rw [zg (by simp only [List.length_set]; omega)]
  rw [Int.toNat_natCast,set_drop _ _ _ (by omega),show j - 1+1=j by omega,List.take_of_length_le (by simp; omega),ziv,hf]
  have:fm (j - 50) m=[dg m]:=by
   cases e:j - 50 with
   | zero=>rfl
   | succ k=>simp only [fm]; rw [if_pos (by omega)]
  rw [this]; rfl
theorem FormatUint16 (n:Nat) (h:n < 18446744073709551616):za0 (n:Int) 16=some (fm 15 n):=by
 unfold za0 zas
 rw [formatBits16 n h]; rfl
theorem repeat0:∀ c:Fin 17,zb3 [48] (c.val:Int)=some (List.replicate c.val 48):=by
 intro c
 obtain ⟨c,hc⟩:=c
 simp only
 unfold zb3
 obtain ⟨N,hN⟩:∃ N,zc4=N:=⟨_,rfl⟩
 rw [hN]
 clear hN
 by_cases h0:c=0
 ·subst h0; rfl
 by_cases h1:c=1
 ·subst h1; rfl
 rw [zfV (decide_eq_false (by omega)),zfV (decide_eq_false (by omega))]
 have hm:∀ c:Fin 17,zds (IntKind.u64.wrap (([48]:Str).length:Int)) (IntKind.u64.wrap (c.val:Int))=some (0,(c.val:Int)):=by decide +kernel
 simp only [zaY]
 rw [zfV (decide_eq_false (by omega)),hm ⟨c,hc⟩]
 simp only [zd]
 rw [show decide ((0:Int) < 0)=false from rfl,zfV (by simp; omega)]
 rw [zfV (by simp)]
 show zd1 [48] ((0:Nat):Int) _=_
 rw [zcG (by simp)]
 simp only [List.getElem_cons_zero]
 rw [show decide (((48:UInt8).toNat:Int)=32)=false from rfl,show decide (((48:UInt8).toNat:Int)=45)=false from rfl,show decide (((48:UInt8).toNat:Int)=48)=true from rfl,cond_false,cond_false,cond_true,cond_true]
 have hp:∀ (g:Bool) (a b:Str) (k:Bool→Option Str),z6 a b=some false→callG g (z6 a b) false k=k false:=by
  intro g a b k h
  rw [h,zag]
  cases g <;> rfl
 have ew:IntKind.i64.wrap (c:Int)=c:=wrapN c (by omega)
 rw [hp _ _ _ _ (by decide +kernel),Bool.and_false,cond_false,hp _ _ _ _ (by decide +kernel),Bool.and_false,cond_false,ew]
 rw [show z6 _ [48]=some true from by decide +kernel,zag,decide_eq_true (by omega:(c:Int)≤64)]
 simp only [Bool.and_true,cond_true]
 have hk:∀ c:Fin 17,List.take (Int.toNat (c.val:Int)) ([48,48,48,48,48,48,48,48,48,48,48,48,48,48,48,48,48,48,48,48,48,48,48,48,48,48,48,48,48,48,48,48,48,48,48,48,48,48,48,48,48,48,48,48,48,48,48,48,48,48,48,48,48,48,48,48,48,48,48,48,48,48,48,48]:Str)=List.replicate c.val 48:=by decide
 rw [zg (by simp; omega),hk ⟨c,hc⟩]
theorem zhy (s:Str):zhz s=some (zaC s):=by
 obtain ⟨n,hn,hlt⟩:=hashZ_nat s
 unfold zhz
 show jp _ (fun k=>forL s 0 (fun _ c h nx _=>nx (zlb h c)) 14695981039346656037 _)=_
 simp only [zaY]
 rw [zjb]
 rw [show s.foldl zlb 14695981039346656037=(n:Int) from hn,FormatUint16 n hlt]
 have hl:=fm_len 15 n
 simp only [zd]
 rw [show IntKind.i64.wrap (16 - ((fm 15 n).length:Int))=((16 - (fm 15 n).length:Nat):Int) by rw [zah (by omega) (by omega)]; omega]
 have:=repeat0 ⟨16 - (fm 15 n).length,by omega⟩
 simp only at this
 rw [this,zd,zg (by simp; omega),fm_pad 15 n (by omega)]
 unfold zaC
 rw [hn]; rfl
section
variable {Z A S α:Type}
end
def allI {α:Type} (q:Nat→α→Bool):Nat→List α→Bool
 | _,[]=>true
 | i,x::l=>q i x && allI q (i+1) l
section
variable {Z α:Type}
theorem forL_allI {f:Nat→α→Unit→(Unit→Option Z)→(Unit→Option Z)→Option Z} {z:Z} (q:Nat→α→Bool) (hf:∀ i x nx k,f i x () nx k=bif q i x then nx () else some z) (k:Unit→Option Z) :
  ∀ (l:List α) (i:Nat),forL l i f () k=bif allI q i l then k () else some z
 | [],i=>rfl
 | x::l,i=>by
  unfold forL allI
  rw [hf,forL_allI q hf k l (i+1)]
  cases q i x <;> rfl
end
def zhE (c:UInt8):Bool:=decide (97≤(c.toNat:Int)) && decide ((c.toNat:Int)≤122)
def zX (c:UInt8):Bool:=decide (48≤(c.toNat:Int)) && decide ((c.toNat:Int)≤57)
def zh3 (c:UInt8):Bool:=((zhE c || zX c) || decide ((c.toNat:Int)=45)) || decide ((c.toNat:Int)=46)
def zf5 (s:Str):Bool:=((s.all zh3 && (!decide (s=[]) && decide ((s.length:Int)≤40))) && zhE (s.getD 0 0))
theorem orG (a b:Bool):(a || bif !a then b else false)=(a || b):=by cases a <;> rfl
theorem zil (c:UInt8):zc7 (c.toNat:Int)=some (zh3 c):=by
 unfold zc7 zbH zci
 simp only [zd,zag,orG]
 rfl
theorem zgD (s:Str):zdz s=some (zf5 s):=by
 unfold zdz zeM
 simp only [zaY]
 rw [zcH zh3 (fun i x nx k=>by simp only [zil,zd]; cases zh3 x <;> rfl)]
 simp only [zc3,zd]
 rw [zg]
 ·unfold zbH
  simp only [zag]
  unfold zf5 zhE
  generalize hA:s.all zh3=A
  cases A <;> simp only [cond_true,cond_false,Bool.false_and,Bool.true_and]
  generalize hB:(!decide (s=[]) && decide ((s.length:Int)≤40))=B
  cases B <;> rfl
 ·intro h
  cases s with
  | nil=>cases hA:List.all [] zh3 <;> rw [hA] at h <;> simp at h
  | cons=>simp only [List.length_cons]; omega
theorem allI_all {α:Type} {q:Nat→α→Bool} {p:α→Bool}:∀ (l:List α) (i:Nat),(∀ j x,i≤j→q j x=p x)→allI q i l=l.all p
 | [],i,_=>rfl
 | x::l,i,h=>by
  unfold allI
  rw [h i x (Nat.le_refl _),allI_all l (i+1) (fun j x hj=>h j x (by omega)),List.all_cons]
theorem R_IsName_eq (s:Str):zg9 s=some (zf5 s):=by
 unfold zg9
 simp only [zaY]
 refine (forL_allI (z:=false) (fun i c=>!((decide ((i:Int)=0) && !zhE c) || !zh3 c)) (fun i c nx k=>?_) _ _ _).trans ?_
 ·rw [zjj]
  congr 1
  unfold zh3 zhE zX
  rw [Bool.eq_iff_iff]
  simp only [Bool.or_eq_true,Bool.and_eq_true,Bool.not_eq_true',decide_eq_true_eq,Bool.or_eq_false_iff,Bool.and_eq_false_iff,decide_eq_false_iff_not,Bool.not_eq_false']
  omega
 simp only [zc3]
 congr 1
 unfold zf5
 cases s with
 | nil=>rfl
 | cons x l =>
  unfold allI
  rw [allI_all (p:=zh3) l 1 (fun j x hj=>by rw [decide_eq_false (by omega)]; cases zh3 x <;> rfl),List.all_cons]
  simp only [List.getD_cons_zero]
  cases zh3 x <;> cases zhE x <;> cases l.all zh3 <;> simp
def valB (c:UInt8):Bool:=decide (32≤(c.toNat:Int)) && decide ((c.toNat:Int)≤126)
def zfg (s:Str):Bool:=s.all valB && decide ((s.length:Int)≤1000)
theorem R_IsValue_eq (s:Str):zfz s=some (zfg s):=by
 unfold zfz
 simp only [zaY]
 refine (zcH (z:=false) valB (fun i c nx k=>?_) _ _ _).trans ?_
 ·rw [zjj]
  congr 1
  unfold valB
  rw [Bool.eq_iff_iff]
  simp only [Bool.or_eq_true,Bool.and_eq_true,Bool.not_eq_true',decide_eq_true_eq,Bool.or_eq_false_iff,Bool.and_eq_false_iff,decide_eq_false_iff_not,Bool.not_eq_false']
  omega
 ·simp only [zc3]
  unfold zfg
  cases s.all valB <;> rfl
theorem zjA (s:Str):zdL s=some (zfg s):=by
 unfold zdL zeL
 simp only [zaY]
 rw [zcH valB (fun i x nx k=>by unfold zdl valB; simp only [zd]; rw [zjj,Bool.not_not])]
 simp only [zc3,zag]
 unfold zfg
 cases s with
 | nil=>rfl
 | cons x l=>simp only [show decide (x::l=[])=false from rfl,Bool.not_false,Bool.true_and,cond_true,Bool.false_or]; cases List.all (x::l) valB <;> rfl
theorem when_eq (b:Bool) (e:Int):zgb b e=some (bif b then e else 0):=by cases b <;> rfl
def or2 (a b:Int):Int:=bif !decide (a=0) then a else b
theorem or2_step (a b:Int) (o:Option Int) (h:o=some b):(bif !decide (a=0) then some a else o)=some (or2 a b):=by
 subst h; unfold or2; cases decide (a=0) <;> rfl
theorem cmpB_spec:∀ a b:Str,(zks a b < 0 ↔ a < b)∧(zks a b=0 ↔ a=b)
 | [],[]=>by simp [zks,Lib.compareBytes]
 | _::_,[]=>by simp [zks,Lib.compareBytes]
 | [],_::_=>by simp [zks,Lib.compareBytes]
 | a::x,b::y=>by
  have ih:=cmpB_spec x y
  unfold zks at *
  rw [Lib.compareBytes,List.cons_lt_cons_iff]
  by_cases h:a < b
  ·have:a ≠ b:=fun e=>by subst e; exact UInt8.lt_irrefl _ h
   simp [h,this]
  ·by_cases h2:b < a
   ·have:a ≠ b:=fun e=>by subst e; exact UInt8.lt_irrefl _ h2
    simp [h,h2,this]
   ·have:a=b:=UInt8.le_antisymm (UInt8.not_lt.1 h2) (UInt8.not_lt.1 h)
    subst this
    simpa [h] using ih
section
variable {K V:Type} [DecidableEq K]
theorem zlp {m:List (K × V)} {p:K × V} {k:K} (h:¬ p.1=k):zbD (p::m) k=zbD m k:=by rw [zbD,decide_eq_false h]; rfl
theorem zlq {m:List (K × V)} {p:K × V} {k:K} (h:p.1=k):zbD (p::m) k=some p.2:=by rw [zbD,decide_eq_true h]; rfl
theorem aset_ne {m:List (K × V)} {p:K × V} {k:K} {v:V} (h:¬ p.1=k):zik (p::m) k v=p::zik m k v:=by rw [zik,decide_eq_false h]; rfl
theorem aset_eq {m:List (K × V)} {p:K × V} {k:K} {v:V} (h:p.1=k):zik (p::m) k v=(k,v)::m:=by rw [zik,decide_eq_true h]; rfl
theorem adel_ne {m:List (K × V)} {p:K × V} {k:K} (h:¬ p.1=k):adel (p::m) k=p::adel m k:=by rw [adel,decide_eq_false h]; rfl
theorem adel_eq {m:List (K × V)} {p:K × V} {k:K} (h:p.1=k):adel (p::m) k=m:=by rw [adel,decide_eq_true h]; rfl
theorem keys_aset:∀ (m:List (K × V)) (k:K) (v:V),(zik m k v).map (·.1)=m.map (·.1)++if (zbD m k).isSome then [] else [k]
 | [],k,v=>by simp [zik,zbD]
 | p::m,k,v=>by
  by_cases h:p.1=k
  ·rw [aset_eq h,zlq h]; simp [h]
  ·rw [aset_ne h,zlp h,List.map_cons,keys_aset m k v]; rfl
theorem len_aset (m:List (K × V)) (k:K) (v:V):(zik m k v).length=m.length+if (zbD m k).isSome then 0 else 1:=by
 have:=congrArg List.length (keys_aset m k v)
 simp only [List.length_map,List.length_append] at this
 rw [this]
 split <;> simp
end
section
variable {V A:Type}
variable {key:A→Str}
end
theorem nameOk_len {p:Str} (h:zf5 p=true):p.length≤40:=by
 unfold zf5 at h
 simp only [Bool.and_eq_true,decide_eq_true_eq] at h
 omega
theorem zgf {p:Str} (h:zfg p=true):p.length≤1000:=by
 unfold zfg at h
 simp only [Bool.and_eq_true,decide_eq_true_eq] at h
 omega
def Ok {Z:Type} (o:Option Z) (Q:Z→Prop):Prop:=∃ z,o=some z∧Q z
section
variable {Z A S:Type} {Q:Z→Prop}
theorem Ok.some {z:Z} (h:Q z):Ok (some z) Q:=⟨z,rfl,h⟩
theorem Ok.chk {p:Prop} [Decidable p] {m:Option Z} (hp:p) (h:Ok m Q):Ok (chk p m) Q:=by rw [zg hp]; exact h
theorem Ok.call {P:A→Prop} {a:Option A} {k:A→Option Z} (ha:Ok a P) (h:∀ x,P x→Ok (k x) Q):Ok (call a k) Q:=by
 obtain ⟨x,rfl,hx⟩:=ha
 exact h x hx
theorem Ok.callG {P:A→Prop} {g:Bool} {a:Option A} {d:A} {k:A→Option Z} (ha:g=true→Ok a P) (h:∀ x,(g=true→P x)→Ok (k x) Q):Ok (callG g a d k) Q:=by
 cases g
 ·exact h d fun e=>Bool.noConfusion e
 ·obtain ⟨x,rfl,hx⟩:=ha rfl
  exact h x fun _=>hx
theorem Ok.bif {c:Bool} {x y:Option Z} (h1:c=true→Ok x Q) (h2:c=false→Ok y Q):Ok (bif c then x else y) Q:=by
 cases c
 ·exact h2 rfl
 ·exact h1 rfl
theorem Ok.jp {P:S→Prop} {F:S→Option Z} {m:(S→Option Z)→Option Z} (hF:∀ s,P s→Ok (F s) Q) (h:∀ k,(∀ s,P s→Ok (k s) Q)→Ok (m k) Q):Ok (jp F m) Q:=h F hF
theorem Ok.letv {v:A} {k:A→Option Z} (h:Ok (k v) Q):Ok (letv v k) Q:=h
theorem Ok.loop {f:S→(S→Option Z)→(S→Option Z)→Option Z} {k:S→Option Z} (inv:S→Prop) (mu:S→Nat)
  (h:∀ s nx,inv s→(∀ s',inv s'→mu s' < mu s→Ok (nx s') Q)→Ok (f s nx k) Q):∀ (N:Nat) (s:S),inv s→mu s < N→Ok (loopN N f s k) Q
 | 0,s,_,hm=>by omega
 | N+1,s,hi,hm=>by
  unfold loopN
  exact h s _ hi fun s' hs' hlt=>Ok.loop inv mu h N s' hs' (by omega)
theorem Ok.forC {f:Nat→S→(S→Option Z)→(S→Option Z)→Option Z} {k:S→Option Z} (n:Nat) (inv:Nat→S→Prop)
  (h:∀ i s nx,i < n→inv i s→(∀ s',inv (i+1) s'→Ok (nx s') Q)→Ok (f i s nx k) Q) (hk:∀ s,inv n s→Ok (k s) Q):∀ (m i:Nat) (s:S),i+m=n→inv i s→Ok (forC m i f s k) Q
 | 0,i,s,hm,hi=>by
  unfold Vc.forC
  exact hk s ((show i=n by omega) ▸ hi)
 | m+1,i,s,hm,hi=>by
  unfold Vc.forC
  exact h i s _ (by omega) hi fun s' hs'=>Ok.forC n inv h hk m (i+1) s' (by omega) hs'
end
theorem mid_eq {a b:Int} (h0:0≤a+b) (h:a+b≤100000000):IntKind.i64.wrap (Int.fdiv (IntKind.u64.wrap (IntKind.i64.wrap (a+b))) (2 ^ (shI .u64 1)))=(a+b) / 2:=by
 rw [show IntKind.i64.wrap (a+b)=a+b from zah (by omega) (by omega)]
 obtain ⟨n,hn⟩:=Int.eq_ofNat_of_zero_le h0
 rw [hn,wrapU n (by omega),show (1:Int)=((1:Nat):Int) from rfl,shr_eq n 1 .u64 (by decide),zah (by omega) (by omega)]
 simp
theorem ziA {α:Type} (l:List α) (i:Nat) (x:α):(List.set l i x).length=l.length:=List.length_set
theorem zh8 {l o:List api_Record} {i j:Int} {d d':api_Record} (h:o.Perm l) (hi:0≤i∧i < o.length) (hj:0≤j∧j < o.length):(List.set (List.set o i.toNat (o.getD j.toNat d)) j.toNat (o.getD i.toNat d')).Perm l:=by
 have h1:i.toNat < o.length:=by omega
 have h2:j.toNat < o.length:=by omega
 have e1:o.getD i.toNat d'=o[i.toNat]:=by rw [List.getD_eq_getElem?_getD,List.getElem?_eq_getElem h1]; rfl
 have e2:o.getD j.toNat d=o[j.toNat]:=by rw [List.getD_eq_getElem?_getD,List.getElem?_eq_getElem h2]; rfl
 rw [e1,e2]
 exact (List.set_set_perm h1 h2).trans h
theorem ins_ok (a b:Int) (l:List api_Record) (h0:0≤a) (ha:a≤l.length) (hb:b≤l.length) (hn:l.length≤1000000):Ok (zq a b l) fun z=>z.Perm l:=by
 unfold zq
 have hF:=zbQ
 generalize zc4=N at hF ⊢
 refine Ok.loop (fun s=>a+1≤s.1∧s.1≤max (a+1) b∧s.2.Perm l) (fun s=>(b - s.1).toNat) ?_ N _ ?_ ?_
 ·rintro ⟨i,o⟩ nx ⟨h1,h2,h3⟩ hnx
  dsimp only at *
  have hq:=h3.length_eq
  refine Ok.bif (fun hc=>?_) (fun hc=>?_)
  ·have hc:=of_decide_eq_true hc
   refine Ok.jp (P:=fun o'=>o'.Perm l) (fun o' ho'=>?_) (fun k hk=>?_)
   ·rw [zah (by omega) (by omega)]
    exact hnx (i+1,o') ⟨by dsimp only; omega,by dsimp only; omega,ho'⟩ (by dsimp only; omega)
   ·refine Ok.loop (fun s=>a≤s.1∧s.1≤i∧s.2.Perm l) (fun s=>(s.1 - a).toNat) ?_ N _ ?_ ?_
    ·rintro ⟨j,o'⟩ nx2 ⟨g1,g2,g3⟩ hnx2
     dsimp only at *
     have hq:=g3.length_eq
     have e:IntKind.i64.wrap (j - 1)=j - 1:=zah (by omega) (by omega)
     simp only [e,ziA]
     refine Ok.chk (fun _=>by omega) (Ok.chk (fun hg=>by have:=of_decide_eq_true hg; omega) ?_)
     refine Ok.callG (P:=fun _=>True) (fun _=>Ok.some trivial) (fun x _=>?_)
     refine Ok.bif (fun hg=>?_) (fun _=>hk o' g3)
     simp only [Bool.and_eq_true,decide_eq_true_eq] at hg
     refine Ok.chk (by omega) (Ok.chk (by omega) (Ok.chk (by omega) (Ok.chk (by omega) ?_)))
     exact hnx2 (j - 1,_) ⟨by dsimp only; omega,by dsimp only; omega,zh8 g3 (by omega) (by omega)⟩ (by dsimp only; omega)
    ·exact ⟨by dsimp only; omega,by dsimp only; omega,h3⟩
    ·dsimp only; omega
  ·exact Ok.some h3
 ·have e:IntKind.i64.wrap (a+1)=a+1:=zah (by omega) (by omega)
  exact ⟨by dsimp only; omega,by dsimp only; omega,List.Perm.refl _⟩
 ·have e:IntKind.i64.wrap (a+1)=a+1:=zah (by omega) (by omega)
  dsimp only; omega
theorem swp_ok (a b n:Int) (l:List api_Record) (h0:0≤a) (h1:0≤b) (ha:a+n≤l.length) (hb:b+n≤l.length) (hn:l.length≤1000000):Ok (zp a b n l) fun z=>z.Perm l:=by
 unfold zp
 have hF:=zbQ
 generalize zc4=N at hF ⊢
 refine Ok.loop (fun s=>0≤s.1∧s.2.Perm l) (fun s=>(n - s.1).toNat) ?_ N _ ?_ ?_
 ·rintro ⟨i,o⟩ nx ⟨g1,g2⟩ hnx
  dsimp only at *
  have hq:=g2.length_eq
  refine Ok.bif (fun hc=>?_) (fun _=>Ok.some g2)
  have hc:=of_decide_eq_true hc
  have e1:IntKind.i64.wrap (b+i)=b+i:=zah (by omega) (by omega)
  have e2:IntKind.i64.wrap (a+i)=a+i:=zah (by omega) (by omega)
  have e3:IntKind.i64.wrap (i+1)=i+1:=zah (by omega) (by omega)
  simp only [e1,e2,e3,ziA]
  refine Ok.chk (by omega) (Ok.chk (by omega) (Ok.chk (by omega) (Ok.chk (by omega) ?_)))
  exact hnx (i+1,_) ⟨by dsimp only; omega,zh8 g2 (by omega) (by omega)⟩ (by dsimp only; omega)
 ·exact ⟨by dsimp only; omega,List.Perm.refl _⟩
 ·dsimp only; omega
theorem rot_ok (a m b:Int) (l:List api_Record) (h0:0≤a) (h1:a < m) (h2:m < b) (hb:b≤l.length) (hn:l.length≤1000000):Ok (zO a m b l) fun z=>z.Perm l:=by
 unfold zO
 have hF:=zbQ
 generalize zc4=N at hF ⊢
 refine Ok.jp (P:=fun s=>0 < s.1∧s.1≤m - a∧s.1≤b - m∧s.2.Perm l) ?_ (fun k hk=>?_)
 ·rintro ⟨i,o⟩ ⟨g1,g2,g3,g4⟩
  dsimp only at *
  have hq:=g4.length_eq
  rw [zah (by omega) (by omega)]
  exact Ok.call (swp_ok (m - i) m i o (by omega) (by omega) (by omega) (by omega) (by omega)) fun x hx=>Ok.some (hx.trans g4)
 ·refine Ok.loop (fun s=>0 < s.1∧0 < s.2.1∧s.1≤m - a∧s.2.1≤b - m∧s.2.2.Perm l) (fun s=>(s.1+s.2.1).toNat) ?_ N _ ?_ ?_
  ·rintro ⟨i,j,o⟩ nx ⟨g1,g2,g3,g4,g5⟩ hnx
   dsimp only at *
   have hq:=g5.length_eq
   refine Ok.bif (fun hc=>?_) (fun hc=>?_)
   ·simp only [Bool.not_eq_true',decide_eq_false_iff_not] at hc
    have e1:IntKind.i64.wrap (m - i)=m - i:=zah (by omega) (by omega)
    have e2:IntKind.i64.wrap (i - j)=i - j:=zah (by omega) (by omega)
    have e3:IntKind.i64.wrap (j - i)=j - i:=zah (by omega) (by omega)
    have e4:IntKind.i64.wrap (m+j)=m+j:=zah (by omega) (by omega)
    have e5:IntKind.i64.wrap (m+j - i)=m+j - i:=zah (by omega) (by omega)
    simp only [e1,e2,e3,e4,e5]
    refine Ok.bif (fun hd=>?_) (fun hd=>?_)
    ·have hd:=of_decide_eq_true hd
     exact Ok.call (swp_ok (m - i) m j o (by omega) (by omega) (by omega) (by omega) (by omega)) fun x hx=>hnx (i - j,j,x) ⟨by dsimp only; omega,by dsimp only; omega,by dsimp only; omega,by dsimp only; omega,hx.trans g5⟩ (by dsimp only; omega)
    ·have hd:=of_decide_eq_false hd
     exact Ok.call (swp_ok (m - i) (m+j - i) i o (by omega) (by omega) (by omega) (by omega) (by omega)) fun x hx=>hnx (i,j - i,x) ⟨by dsimp only; omega,by dsimp only; omega,by dsimp only; omega,by dsimp only; omega,hx.trans g5⟩ (by dsimp only; omega)
   ·simp only [Bool.not_eq_false',decide_eq_true_eq] at hc
    exact hk (i,o) ⟨g1,g3,by dsimp only; omega,g5⟩
  ·have e1:IntKind.i64.wrap (m - a)=m - a:=zah (by omega) (by omega)
   have e2:IntKind.i64.wrap (b - m)=b - m:=zah (by omega) (by omega)
   exact ⟨by dsimp only; omega,by dsimp only; omega,by dsimp only; omega,by dsimp only; omega,List.Perm.refl _⟩
  ·have e1:IntKind.i64.wrap (m - a)=m - a:=zah (by omega) (by omega)
   have e2:IntKind.i64.wrap (b - m)=b - m:=zah (by omega) (by omega)
   dsimp only; omega
theorem zk4 {Z A:Type} (v:A) (k:A→Option Z):letv v k=k v:=rfl
set_option maxHeartbeats 4000000 in
theorem sym_ok:∀ (nrec:Nat) (a m b:Int) (l:List api_Record),0≤a→a < m→m < b→b≤l.length→l.length≤1000000→(b - a).toNat < nrec→Ok (zj nrec a m b l) fun z=>z.Perm l
 | 0,a,m,b,l,_,_,_,_,_,hn=>by omega
 | nrec+1,a,m,b,l,h0,h1,h2,hb,hl,hn=>by
  unfold zj
  have hF:=zbQ
  generalize zc4=N at hF ⊢
  have ema:IntKind.i64.wrap (m - a)=m - a:=zah (by omega) (by omega)
  have ebm:IntKind.i64.wrap (b - m)=b - m:=zah (by omega) (by omega)
  have emid:=mid_eq (a:=a) (b:=b) (by omega) (by omega)
  have enn:IntKind.i64.wrap ((a+b) / 2+m)=(a+b) / 2+m:=zah (by omega) (by omega)
  have enb:IntKind.i64.wrap ((a+b) / 2+m - b)=(a+b) / 2+m - b:=zah (by omega) (by omega)
  have en1:IntKind.i64.wrap ((a+b) / 2+m - 1)=(a+b) / 2+m - 1:=zah (by omega) (by omega)
  simp only [zk4,ema,ebm,emid,enn,enb,en1,ziA]
  refine Ok.jp (P:=fun _=>m - a ≠ 1) (fun _ hma=>?_) (fun k3 hk3=>?_)
  ·refine Ok.jp (P:=fun _=>b - m ≠ 1) (fun _ hbm=>?_) (fun k4 hk4=>?_)
   ·refine Ok.jp (P:=fun s=>a≤s.1∧(a+b) / 2+m - s.1≤b∧s.1≤s.2∧s.2≤(a+b) / 2∧s.2≤m) ?_ (fun k5 hk5=>?_)
    ·rintro ⟨st,r⟩ ⟨g1,g2,g3,g4,g5⟩
     dsimp only at *
     refine Ok.jp (P:=fun st=>a≤st∧(a+b) / 2+m - st≤b∧st≤(a+b) / 2∧st≤m) ?_ (fun k6 hk6=>?_)
     ·rintro st ⟨g1,g2,g3,g4⟩
      have een:IntKind.i64.wrap ((a+b) / 2+m - st)=(a+b) / 2+m - st:=zah (by omega) (by omega)
      simp only [een]
      refine Ok.jp (P:=fun o'=>o'.Perm l) (fun o1 ho1=>?_) (fun k7 hk7=>?_)
      ·have hq1:=ho1.length_eq
       refine Ok.jp (P:=fun o'=>o'.Perm l) (fun o2 ho2=>?_) (fun k8 hk8=>?_)
       ·have hq2:=ho2.length_eq
        refine Ok.bif (fun hc=>?_) (fun _=>Ok.some ho2)
        simp only [Bool.and_eq_true,decide_eq_true_eq] at hc
        exact Ok.call (sym_ok nrec ((a+b) / 2) ((a+b) / 2+m - st) b o2 (by omega) (by omega) (by omega) (by omega) (by omega) (by omega)) fun x hx=>Ok.some (hx.trans ho2)
       ·refine Ok.bif (fun hc=>?_) (fun _=>hk8 _ ho1)
        simp only [Bool.and_eq_true,decide_eq_true_eq] at hc
        exact Ok.call (sym_ok nrec a st ((a+b) / 2) o1 (by omega) (by omega) (by omega) (by omega) (by omega) (by omega)) fun x hx=>hk8 _ (hx.trans ho1)
      ·refine Ok.bif (fun hc=>?_) (fun _=>hk7 _ (List.Perm.refl _))
       simp only [Bool.and_eq_true,decide_eq_true_eq] at hc
       exact Ok.call (rot_ok st m ((a+b) / 2+m - st) l (by omega) (by omega) (by omega) (by omega) (by omega)) fun x hx=>hk7 _ hx
     ·refine Ok.loop (fun s=>a≤s.1∧(a+b) / 2+m - s.1≤b∧s.1≤s.2∧s.2≤(a+b) / 2∧s.2≤m) (fun s=>(s.2 - s.1).toNat) ?_ N _ ⟨g1,g2,g3,g4,g5⟩ (by dsimp only; omega)
      rintro ⟨x,y⟩ nx ⟨q1,q2,q3,q4,q5⟩ hnx
      dsimp only at *
      refine Ok.bif (fun hc=>?_) (fun hc=>hk6 x ⟨q1,q2,by omega,by omega⟩)
      have hc:=of_decide_eq_true hc
      have exy:=mid_eq (a:=x) (b:=y) (by omega) (by omega)
      have ec:IntKind.i64.wrap ((a+b) / 2+m - 1 - (x+y) / 2)=(a+b) / 2+m - 1 - (x+y) / 2:=zah (by omega) (by omega)
      have ec1:IntKind.i64.wrap ((x+y) / 2+1)=(x+y) / 2+1:=zah (by omega) (by omega)
      simp only [exy,ec,ec1]
      refine Ok.chk (by omega) (Ok.chk (by omega) ?_)
      refine Ok.call (P:=fun _=>True) (by unfold zbq; exact Ok.some trivial) fun v _=>?_
      refine Ok.bif (fun _=>?_) (fun _=>?_)
      ·exact hnx ((x+y) / 2+1,y) ⟨by dsimp only; omega,by dsimp only; omega,by dsimp only; omega,by dsimp only; omega,by dsimp only; omega⟩ (by dsimp only; omega)
      ·exact hnx (x,(x+y) / 2) ⟨by dsimp only; omega,by dsimp only; omega,by dsimp only; omega,by dsimp only; omega,by dsimp only; omega⟩ (by dsimp only; omega)
    ·refine Ok.bif (fun hc=>?_) (fun hc=>?_)
     ·have hc:=of_decide_eq_true hc
      exact hk5 _ ⟨by dsimp only; omega,by dsimp only; omega,by dsimp only; omega,by dsimp only; omega,by dsimp only; omega⟩
     ·have hc:=of_decide_eq_false hc
      exact hk5 _ ⟨by dsimp only; omega,by dsimp only; omega,by dsimp only; omega,by dsimp only; omega,by dsimp only; omega⟩
   ·refine Ok.bif (fun hc=>?_) (fun hc=>hk4 () (of_decide_eq_false hc))
    refine Ok.jp (P:=fun i=>a≤i∧i≤m) ?_ (fun k5 hk5=>?_)
    ·rintro i ⟨g1,g2⟩
     refine Ok.jp (P:=fun o'=>o'.Perm l) (fun o1 ho1=>Ok.some ho1) (fun k7 hk7=>?_)
     refine Ok.loop (fun s=>i≤s.1∧s.1≤m∧s.2.Perm l) (fun s=>(s.1 - i).toNat) ?_ N _ ⟨g2,Int.le_refl _,List.Perm.refl _⟩ (by dsimp only; omega)
     rintro ⟨x,o⟩ nx ⟨q1,q2,q3⟩ hnx
     dsimp only at *
     have hq:=q3.length_eq
     refine Ok.bif (fun hc=>?_) (fun hc=>hk7 o q3)
     have hc:=of_decide_eq_true hc
     have e1:IntKind.i64.wrap (x - 1)=x - 1:=zah (by omega) (by omega)
     simp only [e1,ziA]
     refine Ok.chk (by omega) (Ok.chk (by omega) (Ok.chk (by omega) (Ok.chk (by omega) ?_)))
     exact hnx (x - 1,_) ⟨by dsimp only; omega,by dsimp only; omega,zh8 q3 (by omega) (by omega)⟩ (by dsimp only; omega)
    ·refine Ok.loop (fun s=>a≤s.1∧s.1≤s.2∧s.2≤m) (fun s=>(s.2 - s.1).toNat) ?_ N _ ⟨Int.le_refl _,by dsimp only; omega,Int.le_refl _⟩ (by dsimp only; omega)
     rintro ⟨x,y⟩ nx ⟨q1,q2,q3⟩ hnx
     dsimp only at *
     refine Ok.bif (fun hc=>?_) (fun hc=>hk5 x ⟨q1,by omega⟩)
     have hc:=of_decide_eq_true hc
     have exy:=mid_eq (a:=x) (b:=y) (by omega) (by omega)
     have ec1:IntKind.i64.wrap ((x+y) / 2+1)=(x+y) / 2+1:=zah (by omega) (by omega)
     simp only [exy,ec1]
     refine Ok.chk (by omega) (Ok.chk (by omega) ?_)
     refine Ok.call (P:=fun _=>True) (by unfold zbq; exact Ok.some trivial) fun v _=>?_
     refine Ok.bif (fun _=>?_) (fun _=>?_)
     ·exact hnx ((x+y) / 2+1,y) ⟨by dsimp only; omega,by dsimp only; omega,by dsimp only; omega⟩ (by dsimp only; omega)
     ·exact hnx (x,(x+y) / 2) ⟨by dsimp only; omega,by dsimp only; omega,by dsimp only; omega⟩ (by dsimp only; omega)
  ·refine Ok.bif (fun hc=>?_) (fun hc=>hk3 () (of_decide_eq_false hc))
   refine Ok.jp (P:=fun i=>m≤i∧i≤b) ?_ (fun k5 hk5=>?_)
   ·rintro i ⟨g1,g2⟩
    have ei:IntKind.i64.wrap (i - 1)=i - 1:=zah (by omega) (by omega)
    simp only [ei]
    refine Ok.jp (P:=fun o'=>o'.Perm l) (fun o1 ho1=>Ok.some ho1) (fun k7 hk7=>?_)
    refine Ok.loop (fun s=>a≤s.1∧s.2.Perm l) (fun s=>(i - s.1).toNat) ?_ N _ ⟨Int.le_refl _,List.Perm.refl _⟩ (by dsimp only; omega)
    rintro ⟨x,o⟩ nx ⟨q1,q3⟩ hnx
    dsimp only at *
    have hq:=q3.length_eq
    refine Ok.bif (fun hc=>?_) (fun hc=>hk7 o q3)
    have hc:=of_decide_eq_true hc
    have e1:IntKind.i64.wrap (x+1)=x+1:=zah (by omega) (by omega)
    simp only [e1,ziA]
    refine Ok.chk (by omega) (Ok.chk (by omega) (Ok.chk (by omega) (Ok.chk (by omega) ?_)))
    exact hnx (x+1,_) ⟨by dsimp only; omega,zh8 q3 (by omega) (by omega)⟩ (by dsimp only; omega)
   ·refine Ok.loop (fun s=>m≤s.1∧s.1≤s.2∧s.2≤b) (fun s=>(s.2 - s.1).toNat) ?_ N _ ⟨Int.le_refl _,by dsimp only; omega,Int.le_refl _⟩ (by dsimp only; omega)
    rintro ⟨x,y⟩ nx ⟨q1,q2,q3⟩ hnx
    dsimp only at *
    refine Ok.bif (fun hc=>?_) (fun hc=>hk5 x ⟨q1,by omega⟩)
    have hc:=of_decide_eq_true hc
    have exy:=mid_eq (a:=x) (b:=y) (by omega) (by omega)
    have ec1:IntKind.i64.wrap ((x+y) / 2+1)=(x+y) / 2+1:=zah (by omega) (by omega)
    simp only [exy,ec1]
    refine Ok.chk (by omega) (Ok.chk (by omega) ?_)
    refine Ok.call (P:=fun _=>True) (by unfold zbq; exact Ok.some trivial) fun v _=>?_
    refine Ok.bif (fun _=>?_) (fun _=>?_)
    ·exact hnx ((x+y) / 2+1,y) ⟨by dsimp only; omega,by dsimp only; omega,by dsimp only; omega⟩ (by dsimp only; omega)
    ·exact hnx (x,(x+y) / 2) ⟨by dsimp only; omega,by dsimp only; omega,by dsimp only; omega⟩ (by dsimp only; omega)
theorem stable_ok (l:List api_Record) (hl:l.length≤100000):Ok (zt l) fun z=>z.Perm l:=by
 unfold zt
 refine Ok.call (P:=fun z=>z.Perm l) ?_ fun x hx=>Ok.some hx
 unfold zY
 have hF:=zbQ
 have hsym:∀ (a m b:Int) (o:List api_Record),0≤a→a < m→m < b→b≤o.length→o.length=l.length→Ok (zj zc4 a m b o) fun z=>z.Perm o:=fun a m b o q1 q2 q3 q4 q5=>sym_ok zc4 a m b o q1 q2 q3 q4 (by omega) (by omega)
 generalize zc4=N at hF hsym ⊢
 refine Ok.jp (P:=fun s=>0≤s.1∧s.1≤(l.length:Int)∧s.2.Perm l) ?_ (fun k1 hk1=>?_)
 ·rintro ⟨a,o⟩ ⟨g1,g2,g3⟩
  dsimp only at *
  have hq:=g3.length_eq
  refine Ok.call (ins_ok a l.length o g1 (by omega) (by omega) (by omega)) fun o1 ho1=>?_
  refine Ok.loop (fun s=>20≤s.1∧s.2.Perm l) (fun s=>((l.length:Int) - s.1).toNat) ?_ N _ ⟨Int.le_refl _,ho1.trans g3⟩ (by dsimp only; omega)
  rintro ⟨bs,o⟩ nx ⟨q1,q2⟩ hnx
  dsimp only at *
  have hq2:=q2.length_eq
  refine Ok.bif (fun hc=>?_) (fun _=>Ok.some q2)
  have hc:=of_decide_eq_true hc
  have e1:IntKind.i64.wrap (bs * 2)=bs * 2:=zah (by omega) (by omega)
  have e2:IntKind.i64.wrap (2 * bs)=2 * bs:=zah (by omega) (by omega)
  simp only [e1,e2]
  refine Ok.jp (P:=fun s=>0≤s.1∧s.1≤(l.length:Int)∧s.2.Perm l) ?_ (fun k2 hk2=>?_)
  ·rintro ⟨a,o⟩ ⟨g1,g2,g3⟩
   dsimp only at *
   have hq:=g3.length_eq
   have e3:IntKind.i64.wrap (a+bs)=a+bs:=zah (by omega) (by omega)
   simp only [e3]
   refine Ok.bif (fun hd=>?_) (fun _=>hnx (bs * 2,o) ⟨by dsimp only; omega,g3⟩ (by dsimp only; omega))
   have hd:=of_decide_eq_true hd
   exact Ok.call (hsym a (a+bs) l.length o g1 (by omega) (by omega) (by omega) hq) fun x hx=>hnx (bs * 2,x) ⟨by dsimp only; omega,hx.trans g3⟩ (by dsimp only; omega)
  ·refine Ok.loop (fun s=>0≤s.1∧s.1≤(l.length:Int)∧s.2.1=s.1+2 * bs∧s.2.2.Perm l) (fun s=>((l.length:Int) - s.1).toNat) ?_ N _ ⟨Int.le_refl _,by dsimp only; omega,by dsimp only; omega,q2⟩ (by dsimp only; omega)
   rintro ⟨a,b,o⟩ nx2 ⟨p1,p2,p3,p4⟩ hnx2
   dsimp only at *
   have hqp:=p4.length_eq
   refine Ok.bif (fun hd=>?_) (fun _=>hk2 (a,o) ⟨p1,p2,p4⟩)
   have hd:=of_decide_eq_true hd
   have e3:IntKind.i64.wrap (a+bs)=a+bs:=zah (by omega) (by omega)
   have e4:IntKind.i64.wrap (b+2 * bs)=b+2 * bs:=zah (by omega) (by omega)
   simp only [e3,e4]
   exact Ok.call (hsym a (a+bs) b o p1 (by omega) (by omega) (by omega) hqp) fun x hx=>hnx2 (b,b+2 * bs,x) ⟨by dsimp only; omega,by dsimp only; omega,by dsimp only,hx.trans p4⟩ (by dsimp only; omega)
 ·refine Ok.loop (fun s=>0≤s.1∧s.1≤(l.length:Int)∧s.2.1=s.1+20∧s.2.2.Perm l) (fun s=>((l.length:Int) - s.1).toNat) ?_ N _ ⟨Int.le_refl _,by dsimp only; omega,by dsimp only; omega,List.Perm.refl _⟩ (by dsimp only; omega)
  rintro ⟨a,b,o⟩ nx2 ⟨p1,p2,p3,p4⟩ hnx2
  dsimp only at *
  have hqp:=p4.length_eq
  refine Ok.bif (fun hd=>?_) (fun _=>hk1 (a,o) ⟨p1,p2,p4⟩)
  have hd:=of_decide_eq_true hd
  have e4:IntKind.i64.wrap (b+20)=b+20:=zah (by omega) (by omega)
  simp only [e4]
  exact Ok.call (ins_ok a b o p1 (by omega) (by omega) (by omega)) fun x hx=>hnx2 (b,b+20,x) ⟨by dsimp only; omega,by dsimp only; omega,by dsimp only,hx.trans p4⟩ (by dsimp only; omega)
def zgd (c:UInt8):Bool:=zhE c || zX c
def LT:Str:=[97,98,99,100,101,102,103,104,105,106,107,108,109,110,111,112,113,114,115,116,117,118,119,120,121,122,48,49,50,51,52,53,54,55,56,57]
def DG:Str:=[48,49,50,51,52,53,54,55,56,57]
theorem all_u8 {p:UInt8→Prop} (h:∀ n:Fin 256,p (UInt8.ofNat n.val)) (c:UInt8):p c:=by
 have:=h ⟨c.toNat,c.toNat_lt⟩
 simpa using this
theorem LT_mem (c:UInt8):LT.contains c=zgd c:=all_u8 (p:=fun c=>LT.contains c=zgd c) (by decide +kernel) c
theorem DG_mem (c:UInt8):DG.contains c=zX c:=all_u8 (p:=fun c=>DG.contains c=zX c) (by decide +kernel) c
theorem zg3 {α:Type} {p:α→Bool}:∀ {l:List α},(∀ x ∈ l,p x=true)→l.dropWhile p=[]
 | [],_=>rfl
 | x::l,h=>by
  rw [List.dropWhile_cons,if_pos (h x (by simp))]
  exact zg3 fun y hy=>h y (by simp [hy])
theorem trim_all {w bs:Str} (h:w.all bs.contains=true):Go.Lib.trimS w bs=[]:=by
 rw [List.all_eq_true] at h
 unfold Go.Lib.trimS Go.Lib.trimRightS Go.Lib.trimLeftS
 rw [zg3 (l:=w.reverse) (fun x hx=>h x (by simpa using hx))]
 rfl
theorem inner_eq (w bs:Str):zjy w bs=some (w.all bs.contains):=by
 unfold zjy
 simp only [zaY]
 rw [zcH bs.contains (fun i x nx k=>?_)]
 ·rw [zc3]; cases w.all bs.contains <;> rfl
 ·rw [zk9,zd,zjj]
  congr 1
  by_cases h:x ∈ bs
  ·rw [zie h,decide_eq_false (by omega)]; simpa using h
  ·rw [zk6 h,decide_eq_true (by omega)]; simpa using h
theorem of_eq (w bs:Str) (hb:bs.length≤4294967280∧(bs.all fun c=>decide (c.toNat < 128))=true):R_Of w bs=some (w.all bs.contains):=by
 unfold R_Of zfi
 rw [zg hb,zd,inner_eq,zag]
 congr 1
 cases h:w.all bs.contains
 ·cases decide (Go.Lib.trimS w bs=[]) <;> rfl
 ·rw [trim_all h]; rfl
theorem ofL_eq (w:Str):R_Of w LT=some (w.all zgd):=by
 rw [of_eq w LT (by decide)]
 congr 2
 funext c
 exact LT_mem c
theorem ofD_eq (w:Str):R_Of w DG=some (w.all zX):=by
 rw [of_eq w DG (by decide)]
 congr 2
 funext c
 exact DG_mem c
def zdU (p:UInt8→Bool) (w:Str) (n:Int):Bool:=w.all p && (!decide (w=[]) && decide ((w.length:Int)≤n))
def zkW (w:Str):Bool:=zdU zX w 10
theorem zkj (c:UInt8):zci (c.toNat:Int)=some (zX c):=rfl
theorem isSmall_eq (c:UInt8):zbH (c.toNat:Int)=some (zhE c):=rfl
theorem isEarly1_eq (c:UInt8):zcv (c.toNat:Int)=some (zgd c):=by
 unfold zcv
 rw [isSmall_eq,zkj,zd,zag]
 unfold zgd
 rw [orG]
theorem each2_eq (w:Str) (n:Int):zdK w n=some (zdU zgd w n):=by
 unfold zdK
 simp only [zaY]
 rw [zcH zgd (fun i x nx k=>by rw [isEarly1_eq,zd,zjj,Bool.not_not])]
 rw [zc3]
 unfold zdU
 cases w.all zgd <;> rfl
theorem each3_eq (w:Str) (n:Int):zcP w n=some (zdU zX w n):=by
 unfold zcP
 simp only [zaY]
 rw [zcH zX (fun i x nx k=>by rw [zkj,zd,zjj,Bool.not_not])]
 rw [zc3]
 unfold zdU
 cases w.all zX <;> rfl
theorem zhM (w:Str):zbp w=some (zkW w):=by
 unfold zbp
 rw [each3_eq,zd]
 rfl
def zd6 (w:Str):Bool:=zdU zgd w 10 && !((w.all zX && decide (1 < (w.length:Int))) && decide (((w.getD 0 0).toNat:Int)=48))
def zeo (e:Str):Bool:=(zD 46 e).all zd6 && decide ((e.length:Int)≤40)
theorem isEarly_eq (e:Str) (h:e.length≤17179869184):zdJ e=some (zeo e):=by
 unfold zdJ
 simp only [zaY]
 rw [zdm e 46 h,zd]
 rw [zcH zd6 (fun i w nx k=>?_)]
 ·rw [zc3]
  unfold zeo
  cases (zD 46 e).all zd6 <;> rfl
 ·rw [each2_eq,zd,zhM,zag]
  cases w with
  | nil=>rfl
  | cons c l =>
   rw [zg (fun _=>by simp only [List.length_cons]; omega)]
   rw [zjj]
   congr 1
   unfold zd6 zkW
   have e1:zdU zgd (c::l) 10=(List.all (c::l) zgd && decide (((c::l).length:Int)≤10)):=by unfold zdU; simp
   have e2:zdU zX (c::l) 10=(List.all (c::l) zX && decide (((c::l).length:Int)≤10)):=by unfold zdU; simp
   have e3:decide (c::l=([48]:Str))=(decide (((c::l).getD 0 0).toNat=48) && decide (l=[])):=by
    rw [Bool.eq_iff_iff]
    simp only [Bool.and_eq_true,decide_eq_true_eq,List.getD_cons_zero,List.cons.injEq]
    constructor
    ·rintro ⟨rfl,rfl⟩; exact ⟨rfl,rfl⟩
    ·rintro ⟨h1,rfl⟩; exact ⟨by rw [← UInt8.toNat_inj]; exact h1,rfl⟩
   have e4:decide (1 < ((c::l).length:Int))=!decide (l=[]):=by
    rw [Bool.eq_iff_iff]
    simp only [decide_eq_true_eq,Bool.not_eq_true',decide_eq_false_iff_not,List.length_cons]
    cases l <;> simp
    omega
   have e5:decide ((((c::l).getD 0 0).toNat:Int)=48)=decide (((c::l).getD 0 0).toNat=48):=decide_eq_decide.2 (by omega)
   rw [e1,e2,e3,e4,e5]
   generalize List.all (c::l) zgd=b1
   generalize List.all (c::l) zX=b2
   generalize decide (((c::l).length:Int)≤10)=b3
   generalize decide (((c::l).getD 0 0).toNat=48)=b4
   generalize decide (l=[])=b5
   cases b1 <;> cases b2 <;> cases b3 <;> cases b4 <;> cases b5 <;> rfl
def zeP (n:Int):Bool:=decide (0≤n) && decide (n≤999999)
def vE (v:api_Version):Int:=bif zeP v.Major && (zeP v.Minor && zeP v.Patch) then (bif decide (v.Early=[]) || zeo v.Early then 0 else 2) else 3
theorem outside_eq (n:Int):zch n 0 999999=some (!zeP n):=by
 unfold zch zeP
 congr 1
 rw [Bool.eq_iff_iff]
 simp only [Bool.or_eq_true,Bool.and_eq_true,Bool.not_eq_true',decide_eq_true_eq,Bool.and_eq_false_iff,decide_eq_false_iff_not]
 omega
theorem zd7 (v:api_Version) (h:v.Early.length≤17179869184):zc8 v=some (vE v):=by
 unfold zc8
 simp only [zaY,outside_eq,zd,isEarly_eq v.Early h,zag,zc3]
 unfold vE
 congr 1
 cases zeP v.Major <;> cases zeP v.Minor <;> cases zeP v.Patch <;> cases decide (v.Early=[]) <;> cases zeo v.Early <;> rfl
theorem forL_one {Z S α:Type} (x:α) (i:Nat) (f:Nat→α→S→(S→Option Z)→(S→Option Z)→Option Z) (s:S) (k:S→Option Z):forL [x] i f s k=f i x s k k:=rfl
theorem R_VE_eq (v:api_Version) (h:v.Early.length≤17179869184):zba [v]=some (vE v):=by
 unfold zba
 simp only [zaY]
 rw [forL_one]
 rw [zcH (z:=3) zeP (fun i n nx k=>by unfold R_In; rw [zd,zjj,Bool.not_not]; rfl)]
 unfold vE
 simp only [List.all_cons,List.all_nil,Bool.and_true]
 cases zeP v.Major && (zeP v.Minor && zeP v.Patch)
 ·rfl
 ·simp only [cond_true]
  cases he:decide (v.Early=[])
  ·simp only [cond_false,Bool.false_or]
   unfold zeo
   cases hl:decide (40 < (v.Early.length:Int))
   ·have hl2:decide ((v.Early.length:Int)≤40)=true:=by have:=of_decide_eq_false hl; exact decide_eq_true (by omega)
    simp only [cond_false]
    rw [zdm v.Early 46 h,zd,hl2,Bool.and_true]
    rw [zcH (z:=2) zd6 (fun i w nx k=>?_)]
    ·rw [zc3]
    ·show callG _ (R_Of w LT) false _=_
     rw [ofL_eq,zag]
     show callG _ (R_Of w DG) false _=_
     rw [ofD_eq,zag]
     cases w with
     | nil=>rfl
     | cons c l =>
      rw [zg (fun _=>by simp only [List.length_cons]; omega)]
      rw [zjj]
      congr 1
      unfold zd6 zdU
      have e1:decide (10 < ((c::l).length:Int))=!decide (((c::l).length:Int)≤10):=by
       rw [Bool.eq_iff_iff]; simp only [decide_eq_true_eq,Bool.not_eq_true',decide_eq_false_iff_not]; omega
      rw [e1,show decide (c::l=([]:Str))=false from rfl]
      generalize List.all (c::l) zgd=b1
      generalize List.all (c::l) zX=b2
      generalize decide (((c::l).length:Int)≤10)=b3
      generalize decide ((((c::l).getD 0 0).toNat:Int)=48)=b4
      generalize decide (1 < ((c::l).length:Int))=b5
      cases b1 <;> cases b2 <;> cases b3 <;> cases b4 <;> cases b5 <;> rfl
   ·have hl2:decide ((v.Early.length:Int)≤40)=false:=by have:=of_decide_eq_true hl; exact decide_eq_false (by omega)
    rw [hl2,Bool.and_false]
    rfl
  ·rfl
def zjQ (x y:Int):Int:=bif decide (x < y) then -1 else bif decide (y < x) then 1 else 0
theorem zep (x y:Int):zL x y=some (zjQ x y):=by
 unfold zL zcJ zjQ
 simp only [zd,decide_true,Bool.not_true,cond_false,zc3]
theorem cmpI_self (x:Int):zjQ x x=0:=by unfold zjQ; simp
def orL (l:List Int):Int:=l.foldr or2 0
theorem or_loop:∀ (l:List Int) (i:Nat),forL l i (fun _ e (_:Unit) nx (_:Unit→Option Int)=>bif !decide (e=0) then some e else nx ()) () (fun _=>some 0)=some (orL l)
 | [],_=>rfl
 | x::l,i=>by
  unfold forL
  dsimp only
  rw [or_loop l (i+1)]
  unfold orL
  rw [List.foldr_cons]
  unfold or2
  rw [zc3]
theorem cmpOr_eq (l:List Int):zdE l=some (orL l):=by
 unfold zdE
 simp only [zaY]
 exact or_loop l 0
theorem zlg (l:List Int):zgA l=some (orL l):=by
 unfold zgA
 simp only [zaY]
 exact or_loop l 0
theorem zkp (a b:Str):zbK a b=some (zks a b):=rfl
def wcV (a b:Str):Int:=bif zkW a && zkW b then (bif !decide ((a.length:Int)=(b.length:Int)) then zjQ a.length b.length else zks a b) else bif zkW a then -1 else bif zkW b then 1 else zks a b
theorem zjk (a b:Str):zbr a b=some (wcV a b):=by
 unfold zbr wcV
 simp only [zaY,zhM,zd,zep,zkp,zc3]
theorem zgy {s:Str} (h:s.length≤18):zg8 s=atoiN s:=by
 unfold zg8 atoiN
 rw [Go.Lib.atoiAll_short s h]
 cases Go.Lib.atoi s <;> rfl
theorem atoiE_short {s:Str} (h:s.length≤18):atoiE s=(Go.Lib.atoi s).isSome:=by
 unfold atoiE
 rw [Go.Lib.atoiAll_short s h]
 cases Go.Lib.atoi s <;> rfl
def wcR (a b:Str):Int:=bif a.all zX && b.all zX then zjQ (atoiN a) (atoiN b) else bif a.all zX then -1 else bif b.all zX then 1 else zks a b
def val (acc:Nat) (l:Str):Nat:=l.foldl (fun n c=>n * 10+(c.toNat - 48)) acc
theorem zef {c:UInt8} (h:zX c=true):48≤c.toNat∧c.toNat≤57:=by
 unfold zX at h
 simp only [Bool.and_eq_true,decide_eq_true_eq] at h
 omega
theorem zgu:∀ (l:Str) (acc:Nat),l.all zX=true→Go.Lib.decFrom acc l=some (val acc l)
 | [],_,_=>rfl
 | c::l,acc,h=>by
  simp only [List.all_cons,Bool.and_eq_true] at h
  have:=zef h.1
  unfold Go.Lib.decFrom Go.Lib.digitVal
  rw [if_pos this]
  exact zgu l _ h.2
theorem zjr {w:Str} (h:w.all zX=true) (hne:w ≠ []):atoiN w=(val 0 w:Nat):=by
 cases w with
 | nil=>exact absurd rfl hne
 | cons c l =>
  have hc:zX c=true:=by simp only [List.all_cons,Bool.and_eq_true] at h; exact h.1
  have hr:=zef hc
  have h1:(c == 45)=false:=by
   rw [beq_eq_false_iff_ne]; rintro rfl; revert hr; decide
  have h2:(c == 43)=false:=by
   rw [beq_eq_false_iff_ne]; rintro rfl; revert hr; decide
  unfold atoiN Go.Lib.atoi Go.Lib.decNat
  simp only [h1,h2,Bool.false_eq_true,if_false,List.isEmpty_cons,zgu _ 0 h,Option.map_some,Option.getD_some]
theorem val_acc:∀ (l:Str) (acc:Nat),val acc l=acc * 10 ^ l.length+val 0 l
 | [],acc=>by simp [val]
 | c::l,acc=>by
  have e1:val acc (c::l)=val (acc * 10+(c.toNat - 48)) l:=rfl
  have e2:val 0 (c::l)=val (0 * 10+(c.toNat - 48)) l:=rfl
  rw [e1,e2,val_acc l (acc * 10+(c.toNat - 48)),val_acc l (0 * 10+(c.toNat - 48)),List.length_cons,Nat.pow_succ,Nat.add_mul,Nat.add_mul,Nat.mul_assoc,Nat.mul_comm 10]
  simp only [Nat.zero_mul,Nat.zero_add]
  omega
theorem zh5 (c:UInt8) (l:Str):val 0 (c::l)=(c.toNat - 48) * 10 ^ l.length+val 0 l:=by
 have e2:val 0 (c::l)=val (0 * 10+(c.toNat - 48)) l:=rfl
 rw [e2,val_acc]; simp
theorem val_lt:∀ (l:Str),l.all zX=true→val 0 l < 10 ^ l.length
 | [],_=>by simp [val]
 | c::l,h=>by
  simp only [List.all_cons,Bool.and_eq_true] at h
  have hr:=zef h.1
  have ih:=val_lt l h.2
  rw [zh5,List.length_cons,Nat.pow_succ]
  have:(c.toNat - 48) * 10 ^ l.length≤9 * 10 ^ l.length:=Nat.mul_le_mul_right _ (by omega)
  omega
theorem val_ge {c:UInt8} {l:Str} (h:zX c=true) (h0:c.toNat ≠ 48):10 ^ l.length≤val 0 (c::l):=by
 have hr:=zef h
 rw [zh5]
 have:1 * 10 ^ l.length≤(c.toNat - 48) * 10 ^ l.length:=Nat.mul_le_mul_right _ (by omega)
 omega
theorem zhx {a b c d:Int} (h1:a < b ↔ c < d) (h2:b < a ↔ d < c):zjQ a b=zjQ c d:=by
 unfold zjQ
 rw [decide_eq_decide.2 h1,decide_eq_decide.2 h2]
theorem cmp_same:∀ (a b:Str),a.length=b.length→a.all zX=true→b.all zX=true→zjQ (val 0 a:Nat) (val 0 b:Nat)=zks a b
 | [],[],_,_,_=>rfl
 | [],_::_,h,_,_=>by simp at h
 | _::_,[],h,_,_=>by simp at h
 | x::a,y::b,h,ha,hb=>by
  simp only [List.all_cons,Bool.and_eq_true] at ha hb
  have hl:a.length=b.length:=by simpa using h
  have ih:=cmp_same a b hl ha.2 hb.2
  have hx:=zef ha.1
  have hy:=zef hb.1
  have va:=val_lt a ha.2
  have vb:=val_lt b hb.2
  rw [zh5,zh5,hl]
  rw [hl] at va
  show _=Go.Lib.compareBytes (x::a) (y::b)
  unfold Go.Lib.compareBytes
  have lt_of:∀ {p q u v:Nat},p < q→u < 10 ^ b.length→p * 10 ^ b.length+u < q * 10 ^ b.length+v:=by
   intro p q u v hpq hu
   have h3:(p+1) * 10 ^ b.length≤q * 10 ^ b.length:=Nat.mul_le_mul_right _ hpq
   have h4:p * 10 ^ b.length+u < (p+1) * 10 ^ b.length:=by rw [Nat.succ_mul]; exact Nat.add_lt_add_left hu _
   exact Nat.lt_of_lt_of_le h4 (Nat.le_trans h3 (Nat.le_add_right _ _))
  by_cases h1:x < y
  ·rw [if_pos h1]
   have h1':x.toNat < y.toNat:=UInt8.lt_iff_toNat_lt.1 h1
   have:=lt_of (p:=x.toNat - 48) (q:=y.toNat - 48) (v:=val 0 b) (by omega) va
   unfold zjQ
   rw [decide_eq_true (Int.ofNat_lt.2 this)]; rfl
  ·rw [if_neg h1]
   by_cases h2:y < x
   ·rw [if_pos h2]
    have h2':y.toNat < x.toNat:=UInt8.lt_iff_toNat_lt.1 h2
    have:=lt_of (p:=y.toNat - 48) (q:=x.toNat - 48) (v:=val 0 a) (by omega) vb
    unfold zjQ
    rw [decide_eq_false (fun h=>Nat.lt_asymm this (Int.ofNat_lt.1 h)),decide_eq_true (Int.ofNat_lt.2 this)]; rfl
   ·rw [if_neg h2]
    have he:x.toNat=y.toNat:=by
     have k1:¬ x.toNat < y.toNat:=fun h=>h1 (UInt8.lt_iff_toNat_lt.2 h)
     have k2:¬ y.toNat < x.toNat:=fun h=>h2 (UInt8.lt_iff_toNat_lt.2 h)
     omega
    rw [he]
    exact (zhx (by rw [Int.ofNat_lt,Int.ofNat_lt]; exact Nat.add_lt_add_iff_left) (by rw [Int.ofNat_lt,Int.ofNat_lt]; exact Nat.add_lt_add_iff_left)).trans ih
theorem zfB {w:Str} (h:zd6 w=true):w ≠ []∧w.length≤10∧zkW w=w.all zX∧(w.all zX=true→1 < w.length→∃ c l,w=c::l∧c.toNat ≠ 48):=by
 unfold zd6 zdU at h
 simp only [Bool.and_eq_true,Bool.not_eq_true',decide_eq_true_eq,decide_eq_false_iff_not] at h
 obtain ⟨⟨h1,h2,h3⟩,h4⟩:=h
 refine ⟨h2,by omega,?_,fun hd hl=>?_⟩
 ·unfold zkW zdU
  rw [decide_eq_false h2,decide_eq_true h3]; simp
 ·cases w with
  | nil=>exact absurd rfl h2
  | cons c l =>
   refine ⟨c,l,rfl,fun e=>?_⟩
   rw [hd,decide_eq_true (by omega),List.getD_cons_zero,e] at h4
   cases h4
theorem wc_same {a b:Str} (ha:zd6 a=true) (hb:zd6 b=true):wcR a b=wcV a b:=by
 obtain ⟨a1,a2,a3,a4⟩:=zfB ha
 obtain ⟨b1,b2,b3,b4⟩:=zfB hb
 unfold wcR wcV
 rw [a3,b3]
 cases hda:a.all zX <;> cases hdb:b.all zX <;> try rfl
 simp only [Bool.and_self,cond_true]
 rw [zjr hda a1,zjr hdb b1]
 by_cases hl:a.length=b.length
 ·rw [decide_eq_true (by omega),Bool.not_true,cond_false]
  exact cmp_same a b hl hda hdb
 ·rw [decide_eq_false (by omega),Bool.not_false,cond_true]
  have ka:=List.length_pos_iff.2 a1
  have kb:=List.length_pos_iff.2 b1
  have far:∀ {u v:Str},u.all zX=true→v.all zX=true→(v.all zX=true→1 < v.length→∃ c l,v=c::l∧c.toNat ≠ 48)→0 < u.length→u.length < v.length→val 0 u < val 0 v:=by
   intro u v hu hv h4 hu0 hlt
   obtain ⟨c,l,rfl,hc⟩:=h4 hv (by omega)
   simp only [List.all_cons,Bool.and_eq_true] at hv
   have g1:=val_lt u hu
   have g2:=val_ge (l:=l) hv.1 hc
   have g3:10 ^ u.length≤10 ^ l.length:=Nat.pow_le_pow_right (by decide) (by simp only [List.length_cons] at hlt; omega)
   omega
  rcases Nat.lt_or_ge a.length b.length with h | h
  ·have:=far hda hdb b4 ka h
   exact zhx (by omega) (by omega)
  ·have:=far hdb hda a4 kb (by omega)
   exact zhx (by omega) (by omega)
theorem cmpB_self (a:Str):zks a a=0:=(cmpB_spec a a).2.2 rfl
theorem wcV_self (a:Str):wcV a a=0:=by
 unfold wcV
 cases zkW a <;> simp [cmpB_self]
def cmpL (wc:Str→Str→Int) (n m:Int):List Str→List Str→Int
 | x::xs,y::ys=>or2 (wc x y) (cmpL wc n m xs ys)
 | _,_=>zjQ n m
theorem zkr {wc wc':Str→Str→Int} {n m:Int}:∀ {X Y:List Str},(∀ x ∈ X,∀ y ∈ Y,wc x y=wc' x y)→cmpL wc n m X Y=cmpL wc' n m X Y
 | [],_,_=>by simp only [cmpL]
 | _::_,[],_=>by simp only [cmpL]
 | x::X,y::Y,h=>by
  simp only [cmpL]
  rw [h x (by simp) y (by simp),zkr fun x' hx y' hy=>h x' (by simp [hx]) y' (by simp [hy])]
theorem cmpL_self {n:Int}:∀ X:List Str,cmpL wcV n n X X=0
 | []=>cmpI_self n
 | x::X=>by simp only [cmpL,wcV_self,cmpL_self X]; rfl
theorem cmpL_end {wc:Str→Str→Int} {n m:Int} {X Y:List Str} (h:X=[] ∨ Y=[]):cmpL wc n m X Y=zjQ n m:=by
 rcases h with rfl | rfl
 ·simp only [cmpL]
 ·cases X <;> simp only [cmpL]
theorem zjT (wc:Str→Str→Int) (X Y:List Str) (hx:X.length≤1000000) {f:Int→(Int→Option Int)→(Int→Option Int)→Option Int} {K:Int→Option Int} (hK:∀ t,K t=some (zjQ X.length Y.length)) (n:Nat) (hn:10000000≤n)
  (hf:∀ (t:Nat) (h1:t < X.length) (h2:t < Y.length) nx,f t nx K=bif !decide (wc X[t] Y[t]=0) then some (wc X[t] Y[t]) else nx ((t+1:Nat):Int))
  (hs:∀ (t:Int) nx,¬ t < min (X.length:Int) (Y.length:Int)→f t nx K=K t):loopN n f 0 K=some (cmpL wc X.length Y.length X Y):=by
 have:=zbM (f:=f) (k:=K) (fun t=>0≤t∧t≤min (X.length:Int) (Y.length:Int)) (fun t=>(min (X.length:Int) (Y.length:Int) - t).toNat) (fun t=>some (cmpL wc X.length Y.length (X.drop t.toNat) (Y.drop t.toNat))) ?_ n 0 ⟨Int.le_refl _,by omega⟩ (by omega)
 ·simpa using this
 ·rintro t nx ⟨h1,h2⟩ hnx
  obtain ⟨k,rfl⟩:=Int.eq_ofNat_of_zero_le h1
  by_cases hlt:(k:Int) < min (X.length:Int) (Y.length:Int)
  ·have hkx:k < X.length:=by omega
   have hky:k < Y.length:=by omega
   rw [hf k hkx hky,hnx ((k+1:Nat):Int) ⟨by omega,by omega⟩ (by omega),zc3]
   simp only [Int.toNat_natCast]
   rw [List.drop_eq_getElem_cons hkx,List.drop_eq_getElem_cons hky]
   simp only [cmpL]
   rfl
  ·rw [hs _ _ hlt,hK]
   simp only [Int.toNat_natCast]
   rw [cmpL_end]
   rcases Int.le_total (X.length:Int) (Y.length:Int) with h | h
   ·exact .inl (List.drop_eq_nil_of_le (by omega))
   ·exact .inr (List.drop_eq_nil_of_le (by omega))
def erl (a b:Str):Int:=bif decide (a=b) then 0 else bif decide (a=[]) then 1 else bif decide (b=[]) then -1 else cmpL wcV (zD 46 a).length (zD 46 b).length (zD 46 a) (zD 46 b)
theorem zgF {e:Str} (h:e.length≤900000):(zD 46 e).length≤1000000:=by
 rw [zfZ]
 have:=List.count_le_length (a:=(46:UInt8)) (l:=e)
 omega
theorem zjl (a b:Str) (ha:a.length≤900000) (hb:b.length≤900000):zbs a b=some (erl a b):=by
 unfold zbs erl
 have hF:=zbQ
 generalize zc4=N at hF ⊢
 rw [zdm a 46 (by omega),zdm b 46 (by omega),zd,zd,zaY]
 dsimp only
 simp only [zep,zd]
 rw [zjT wcV (zD 46 a) (zD 46 b) (zgF ha) (fun t=>rfl) N (by omega) (fun t h1 h2 nx=>?_) (fun t nx h=>?_)]
 ·simp only [zc3]
 ·have hd:decide ((t:Int) < min ((zD 46 a).length:Int) ((zD 46 b).length:Int))=true:=decide_eq_true (by omega)
  have hb:t < 9223372036854775807:=Nat.lt_of_lt_of_le h1 (Nat.le_trans (zgF ha) (by decide))
  rw [hd,cond_true,za5 h1,za5 h2,zjk,zd,zd2 t hb]
 ·rw [decide_eq_false h]; rfl
def ordV (a b:api_Version):Int:=orL [zjQ a.Major b.Major,zjQ a.Minor b.Minor,zjQ a.Patch b.Patch,erl a.Early b.Early]
theorem order_eq (a b:api_Version) (ha:a.Early.length≤900000) (hb:b.Early.length≤900000):zff a b=some (ordV a b):=by
 unfold zff ordV
 simp only [zep,zd,zjl _ _ ha hb,cmpOr_eq]
theorem zh6 {v:api_Version} (h:vE v=0):v.Early=[] ∨ zeo v.Early=true:=by
 unfold vE at h
 cases h1:zeP v.Major && (zeP v.Minor && zeP v.Patch) <;> rw [h1] at h
 ·cases h
 ·simp only [cond_true] at h
  cases h2:decide (v.Early=[]) || zeo v.Early <;> rw [h2] at h
  ·cases h
  ·simpa using h2
theorem zdw {e:Str} (h:zeo e=true):(∀ w ∈ zD 46 e,zd6 w=true)∧e.length≤40:=by
 unfold zeo at h
 simp only [Bool.and_eq_true,List.all_eq_true,decide_eq_true_eq] at h
 exact ⟨h.1,by omega⟩
theorem min1 (e:Str):min 1 (e.length:Int)=if e=[] then 0 else 1:=by
 cases e with
 | nil=>rfl
 | cons c l=>simp only [List.length_cons,reduceCtorEq,if_false]; omega
theorem zjS (a b:api_Version) (ha:vE a=0) (hb:vE b=0):zdZ a b=some (ordV a b):=by
 unfold zdZ ordV
 have hF:=zbQ
 generalize zc4=N at hF ⊢
 rw [zep,zd,zep,zd,zep,zd,cmpOr_eq,zd]
 generalize zjQ a.Major b.Major=x
 generalize zjQ a.Minor b.Minor=y
 generalize zjQ a.Patch b.Patch=z
 have hor:∀ e:Int,orL [x,y,z,e]=bif !decide (orL [x,y,z]=0) then orL [x,y,z] else e:=by
  intro e
  have h0:∀ q:Int,or2 q 0=q:=fun q=>by
   unfold or2
   by_cases h:q=0
   ·rw [h]; rfl
   ·rw [decide_eq_false h]; rfl
  simp only [orL,List.foldr_cons,List.foldr_nil,h0]
  unfold or2
  by_cases hx:x=0 <;> by_cases hy:y=0 <;> by_cases hz:z=0 <;> simp [hx,hy,hz]
 rw [hor]
 cases !decide (orL [x,y,z]=0)
 ·simp only [cond_false]
  rcases zh6 ha with ha | ha
  ·rw [ha,decide_eq_true rfl,Bool.true_or,cond_true,zep,zd]
   simp only [min1,if_true]
   unfold erl
   by_cases hbe:b.Early=[]
   ·rw [hbe]; rfl
   ·rw [if_neg hbe,decide_eq_false (fun e=>hbe e.symm)]; rfl
  ·rcases zh6 hb with hb | hb
   ·rw [hb,decide_eq_true (p:=([]:Str)=[]) rfl,Bool.or_true,cond_true,zep,zd]
    simp only [min1,if_true]
    unfold erl
    by_cases hae:a.Early=[]
    ·rw [hae]; rfl
    ·rw [if_neg hae,decide_eq_false hae,decide_eq_true rfl]; rfl
   ·obtain ⟨wa,la⟩:=zdw ha
    obtain ⟨wb,lb⟩:=zdw hb
    unfold erl
    by_cases hae:a.Early=[]
    ·rw [hae] at wa
     have:=wa [] (by simp [zD])
     cases this
    by_cases hbe:b.Early=[]
    ·rw [hbe] at wb
     have:=wb [] (by simp [zD])
     cases this
    rw [decide_eq_false hae,decide_eq_false hbe,zdm _ 46 (by omega),zdm _ 46 (by omega),Bool.or_self,cond_false,zd,zd,zaY]
    dsimp only
    refine (zjT wcR (zD 46 a.Early) (zD 46 b.Early) (zgF (by omega)) (fun t=>by rw [zep,zd]) N (by omega) (fun t h1 h2 nx=>?_) (fun t nx h=>?_)).trans ?_
    ·have k1:=wa _ (List.getElem_mem h1)
     have k2:=wb _ (List.getElem_mem h2)
     have l1:=(zfB k1).2.1
     have l2:=(zfB k2).2.1
     have hd:decide ((t:Int) < min ((zD 46 a.Early).length:Int) ((zD 46 b.Early).length:Int))=true:=decide_eq_true (by omega)
     have hb:t < 9223372036854775807:=Nat.lt_of_lt_of_le h1 (Nat.le_trans (zgF (e:=a.Early) (by omega)) (by decide))
     rw [hd,cond_true,za5 h1]
     show call (R_Of _ DG) _=_
     rw [ofD_eq,zd,za5 h2]
     show call (R_Of _ DG) _=_
     rw [ofD_eq,zd]
     unfold zaw
     rw [zd,zd,zkp,zd,zd2 t hb,zaY,zgy (by omega),zgy (by omega)]
     dsimp only
     rw [zep,zd]
     unfold wcR
     generalize (zD 46 a.Early)[t]=u
     generalize (zD 46 b.Early)[t]=v
     cases u.all zX <;> cases v.all zX <;> rfl
    ·rw [decide_eq_false h]; rfl
    ·rw [zkr fun x hx y hy=>wc_same (wa x hx) (wb y hy)]
     by_cases he:a.Early=b.Early
     ·rw [he,cmpL_self,decide_eq_true rfl]; rfl
     ·rw [decide_eq_false he]; rfl
 ·rfl
theorem or2_z (a:Int):or2 a 0=a:=by
 unfold or2
 by_cases h:a=0
 ·rw [h]; rfl
 ·rw [decide_eq_false h]; rfl
theorem zdO (a b c:Int):or2 (or2 a b) c=or2 a (or2 b c):=by
 unfold or2
 by_cases h:a=0
 ·simp [h]
 ·rw [decide_eq_false h]; simp [h]
theorem or2_0 (a:Int):or2 0 a=a:=rfl
theorem zgO {a:Int} (h:a ≠ 0) (b:Int):or2 a b=a:=by unfold or2; rw [decide_eq_false h]; rfl
theorem zbT (x:Int) (l:List Int):orL (x::l)=or2 x (orL l):=rfl
def zd4 (v:api_Version):Bool:=!((decide (v.Major=0)) && ((decide (v.Minor=0)) && ((decide (v.Patch=0)) && (decide (v.Early=[])))))
def badF (r:api_Record):Bool:=((!decide (zd4 r.From=(((decide (r.Kind=2)) || (decide (r.Kind=3))) || (decide (r.Kind=4))))) || ((!decide (zd4 r.To=(!decide (r.Kind=4)))) && (!decide (r.Kind=6))))
def badC (r:api_Record):Bool:=(((decide (r.Kind=2)) && (decide (0≤ordV r.From r.To))) || ((decide (r.Kind=3)) && (decide (ordV r.From r.To≤0))))
def wh (b:Bool) (e:Int):Int:=bif b then e else 0
def eHead (r:api_Record):List Int:=[wh ((decide (r.Time < 0)) || (decide (1099511627776 < r.Time))) 3,wh ((decide (r.Kind < 1)) || (decide (6 < r.Kind))) 1,wh (!zf5 r.Pack) 5]
def eTail (r:api_Record):List Int:=[wh (badC r) 11,wh ((decide (r.Result < 0)) || (decide (18 < r.Result))) 3,wh (!zfg r.Note) 2]
def zhv (r:api_Record):Int:=or2 (orL (eHead r)) (or2 (orL [vE r.From,vE r.To]) (or2 (wh (badF r) 2) (orL (eTail r))))
def Pr (r:api_Record):Prop:=r.From.Early.length≤17179869184∧r.To.Early.length≤17179869184
theorem zhc (b:Bool) (e:Int):zgb b e=some (wh b e):=when_eq b e
theorem orL2 {a b:Int} (h:orL [a,b]=0):a=0∧b=0:=by
 simp only [zbT] at h
 have:orL []=0:=rfl
 rw [this,or2_z] at h
 unfold or2 at h
 by_cases ha:a=0
 ·rw [ha] at h; exact ⟨ha,h⟩
 ·rw [decide_eq_false ha] at h; exact absurd h ha
theorem zin {v:api_Version} (h:vE v=0):v.Early.length≤40:=by
 rcases zh6 h with h | h
 ·rw [h]; decide
 ·exact (zdw h).2
theorem zcg (r:api_Record) (h:Pr r):zaT r=some (zhv r):=by
 unfold zaT
 rw [zhc,zd,zhc,zd,R_IsName_eq,zd,zhc,zd,zlg,zd]
 show jp _ (fun k_11=>bif decide (orL (eHead r)=0) then _ else k_11 (orL (eHead r)))=_
 rw [zaY]
 dsimp only
 rw [R_VE_eq _ h.1,R_VE_eq _ h.2,zd,zd,zlg,zd]
 unfold zhv
 by_cases h1:orL (eHead r)=0
 ·rw [decide_eq_true h1,h1,or2_0]
  simp only [cond_true]
  by_cases h2:orL [vE r.From,vE r.To]=0
  ·rw [h2,or2_0]
   obtain ⟨v1,v2⟩:=orL2 h2
   rw [zjS _ _ v1 v2,zd,zhc,zd,zhc,zd,R_IsValue_eq,zd,zhc,zd,zlg,zd]
   show (bif badF r then some 2 else some (orL (eTail r)))=_
   cases badF r <;> rfl
  ·rw [decide_eq_false h2,zgO h2]; rfl
 ·rw [decide_eq_false h1,zgO h1]
  simp only [cond_false,Bool.not_false,cond_true]
theorem zge (b:Bool) (c x:Int) (o:Option Int) (hc:c ≠ 0) (h:o=some x):(bif b then some c else o)=some (or2 (wh b c) x):=by
 rw [h]
 cases b
 ·rfl
 ·rw [show wh true c=c from rfl,zgO hc]; rfl
theorem zem (a b c:Int):zcZ a b c=some ((decide (a < b)) || (decide (c < a))):=rfl
theorem uses_eq (k:Int):zgV k=some (((decide (k=2)) || (decide (k=3))) || (decide (k=4)),!decide (k=4)):=by
 unfold zgV
 simp only [zaY]
 by_cases h2:k=2
 ·subst h2; rfl
 by_cases h3:k=3
 ·subst h3; rfl
 by_cases h4:k=4
 ·subst h4; rfl
 rw [decide_eq_false h2,decide_eq_false h3,decide_eq_false h4]; rfl
theorem eq_comm_b (a b:Bool):decide (a=b)=decide (b=a):=by cases a <;> cases b <;> rfl
theorem zee (r:api_Record) (h:Pr r):zaU r=some (zhv r):=by
 unfold zaU
 rw [zem,zd,zem,zd,zgD,zd]
 unfold zhv eHead
 rw [zbT,zbT,zbT,zdO,zdO,zdO]
 refine zge _ _ _ _ (by decide) (zge _ _ _ _ (by decide) (zge _ _ _ _ (by decide) ?_))
 rw [show orL []=0 from rfl,or2_0,zaY]
 dsimp only
 rw [zd7 _ h.1,zd,zbT,zdO]
 by_cases h1:vE r.From=0
 ·refine or2_step _ _ _ ?_
  rw [zd7 _ h.2,zd,zbT,zdO,show orL []=0 from rfl,or2_0]
  by_cases h2:vE r.To=0
  ·refine or2_step _ _ _ ?_
   rw [uses_eq,zd]
   have hb:((!decide ((((decide (r.Kind=2)) || (decide (r.Kind=3))) || (decide (r.Kind=4)),!decide (r.Kind=4)).1=zd4 r.From)) || ((!decide ((((decide (r.Kind=2)) || (decide (r.Kind=3))) || (decide (r.Kind=4)),!decide (r.Kind=4)).2=zd4 r.To)) && (!decide (r.Kind=6))))=badF r:=by
    unfold badF
    dsimp only
    rw [eq_comm_b _ (zd4 r.From),eq_comm_b _ (zd4 r.To)]
   refine (congrArg (fun b=>bif b then _ else _) hb).trans ?_
   refine zge _ _ _ _ (by decide) ?_
   have l1:=zin h1
   have l2:=zin h2
   rw [order_eq _ _ (by omega) (by omega),zd]
   unfold eTail
   rw [zbT,zbT,zbT]
   refine zge _ _ _ _ (by decide) ?_
   rw [zem,zd]
   refine zge _ _ _ _ (by decide) ?_
   rw [zjA,zd]
   exact zge _ _ _ _ (by decide) rfl
  ·rw [decide_eq_false h2,zgO h2]; rfl
 ·rw [decide_eq_false h1,zgO h1]; rfl
abbrev Mh:=List (Str × log_had)
def ze8 (k:Str) (h:log_had):api_Had:=api_Had.mk k h.v h.since
def toH (m:Mh):List (Str × api_Had):=m.map fun p=>(p.1,ze8 p.1 p.2)
theorem look_toH:∀ (m:Mh) (k:Str),zbD (toH m) k=(zbD m k).map (ze8 k)
 | [],_=>rfl
 | p::m,k=>by
  by_cases h:p.1=k
  ·rw [zlq h]
   show zbD ((p.1,ze8 p.1 p.2)::toH m) k=_
   rw [zlq (p:=(p.1,ze8 p.1 p.2)) h,← h]; rfl
  ·rw [zlp h]
   show zbD ((p.1,ze8 p.1 p.2)::toH m) k=_
   rw [zlp (p:=(p.1,ze8 p.1 p.2)) h,look_toH m k]
theorem aset_toH:∀ (m:Mh) (k:Str) (h:log_had),zik (toH m) k (ze8 k h)=toH (zik m k h)
 | [],_,_=>rfl
 | p::m,k,h=>by
  by_cases e:p.1=k
  ·rw [aset_eq e]
   show zik ((p.1,ze8 p.1 p.2)::toH m) k _=_
   rw [aset_eq (p:=(p.1,ze8 p.1 p.2)) e]; rfl
  ·rw [aset_ne e]
   show zik ((p.1,ze8 p.1 p.2)::toH m) k _=_
   rw [aset_ne (p:=(p.1,ze8 p.1 p.2)) e,aset_toH m k h]; rfl
theorem adel_toH:∀ (m:Mh) (k:Str),adel (toH m) k=toH (adel m k)
 | [],_=>rfl
 | p::m,k=>by
  by_cases e:p.1=k
  ·rw [adel_eq e]
   show adel ((p.1,ze8 p.1 p.2)::toH m) k=_
   rw [adel_eq (p:=(p.1,ze8 p.1 p.2)) e]
  ·rw [adel_ne e]
   show adel ((p.1,ze8 p.1 p.2)::toH m) k=_
   rw [adel_ne (p:=(p.1,ze8 p.1 p.2)) e,adel_toH m k]; rfl
theorem toH_len (m:Mh):(toH m).length=m.length:=List.length_map _
theorem aset_le {V:Type} (m:List (Str × V)) (k:Str) (v:V):(zik m k v).length≤m.length+1:=by
 rw [len_aset]; split <;> omega
theorem adel_le:∀ {V:Type} (m:List (Str × V)) (k:Str),(adel m k).length≤m.length
 | _,[],_=>Nat.le_refl _
 | _,p::m,k=>by
  by_cases e:p.1=k
  ·rw [adel_eq e]; simp
  ·rw [adel_ne e]
   have:=adel_le m k
   simp only [List.length_cons]; omega
def eqV (a b:api_Version):Bool:=(decide (a.Major=b.Major)) && ((decide (a.Minor=b.Minor)) && ((decide (a.Patch=b.Patch)) && (decide (a.Early=b.Early))))
def dH:log_had:=log_had.mk (api_Version.mk 0 0 0 []) 0
def badK (r:api_Record) (q:Option log_had):Bool :=
 bif decide (r.Kind=1) then q.isSome
 else bif (((decide (r.Kind=2)) || (decide (r.Kind=3))) || (decide (r.Kind=4))) then !q.isSome || !eqV (q.getD dH).v r.From
 else bif decide (r.Kind=5) then !q.isSome || !eqV (q.getD dH).v r.To
 else false
def upd (r:api_Record) (m:Mh):Mh :=
 bif !decide (r.Result=0) then m
 else bif (((decide (r.Kind=1)) || (decide (r.Kind=2))) || (decide (r.Kind=3))) then zik m r.Pack (log_had.mk r.To r.Time)
 else bif decide (r.Kind=4) then adel m r.Pack
 else m
theorem upd_le (r:api_Record) (m:Mh):(upd r m).length≤m.length+1:=by
 unfold upd
 cases !decide (r.Result=0)
 ·cases (((decide (r.Kind=1)) || (decide (r.Kind=2))) || (decide (r.Kind=3)))
  ·cases decide (r.Kind=4)
   ·exact Nat.le_succ _
   ·have:=adel_le m r.Pack; simp only [cond_true,cond_false]; omega
  ·exact aset_le m _ _
 ·exact Nat.le_succ _
theorem fault_eq (r:api_Record) (last:Int) (m:Mh):za4 r last m=some (bif decide (r.Time < last) then 7 else wh (badK r (zbD m r.Pack)) 12):=by
 unfold za4
 cases decide (r.Time < last)
 ·simp only [cond_false,zk4,zaY]
  unfold badK eqV
  rw [show (log_had.mk (api_Version.mk 0 0 0 []) 0)=dH from rfl]
  generalize zbD m r.Pack=q
  by_cases h1:r.Kind=1
  ·rw [decide_eq_true h1]; cases q.isSome <;> rfl
  rw [decide_eq_false h1]
  by_cases h2:r.Kind=2
  ·rw [decide_eq_true h2]; simp only [cond_true,cond_false,Bool.true_or]; rw [zc3]; rfl
  rw [decide_eq_false h2]
  by_cases h3:r.Kind=3
  ·rw [decide_eq_true h3]; simp only [cond_true,cond_false,Bool.true_or,Bool.or_true]; rw [zc3]; rfl
  rw [decide_eq_false h3]
  by_cases h4:r.Kind=4
  ·rw [decide_eq_true h4]; simp only [cond_true,cond_false,Bool.true_or,Bool.or_true]; rw [zc3]; rfl
  rw [decide_eq_false h4]
  by_cases h5:r.Kind=5
  ·rw [decide_eq_true h5]; simp only [cond_true,cond_false,Bool.or_self]; rw [zc3]; rfl
  rw [decide_eq_false h5]
  rfl
 ·rfl
theorem add_eq (r:api_Record) (last:Int) (m:Mh) (hm:m.length≤1000000):zbv r last m=some (r.Time,upd r m):=by
 unfold zbv upd
 have hl:=aset_le m r.Pack (log_had.mk r.To r.Time)
 cases !decide (r.Result=0)
 ·simp only [cond_false,zaY]
  rw [zg (by omega)]
  by_cases h1:r.Kind=1
  ·rw [decide_eq_true h1]; rfl
  rw [decide_eq_false h1]
  by_cases h2:r.Kind=2
  ·rw [decide_eq_true h2]; rfl
  rw [decide_eq_false h2]
  by_cases h3:r.Kind=3
  ·rw [decide_eq_true h3]; rfl
  rw [decide_eq_false h3]
  cases decide (r.Kind=4) <;> rfl
 ·rfl
theorem had_d (k:Str) (q:Option log_had) (v:api_Version):(!(q.map (ze8 k)).isSome || !eqV ((q.map (ze8 k)).getD (api_Had.mk [] (api_Version.mk 0 0 0 []) 0)).Version v)=(!q.isSome || !eqV (q.getD dH).v v):=by
 cases q <;> rfl
theorem zkx (r:api_Record) (m:Mh) (hm:m.length≤1000000):zdH r (toH m)=some (bif badK r (zbD m r.Pack) then (false,toH m) else (true,toH (upd r m))):=by
 unfold zdH
 have hl:(zik (toH m) r.Pack (api_Had.mk r.Pack r.To r.Time)).length≤274877906944:=by
  have:=aset_le (toH m) r.Pack (api_Had.mk r.Pack r.To r.Time)
  rw [toH_len] at this; omega
 have hset:zik (toH m) r.Pack (api_Had.mk r.Pack r.To r.Time)=toH (zik m r.Pack (log_had.mk r.To r.Time)):=aset_toH m r.Pack (log_had.mk r.To r.Time)
 simp only [zk4,zaY]
 rw [zg hl,look_toH]
 have hf:=had_d r.Pack (zbD m r.Pack) r.From
 have ht:=had_d r.Pack (zbD m r.Pack) r.To
 unfold eqV at hf ht
 have hs:((zbD m r.Pack).map (ze8 r.Pack)).isSome=(zbD m r.Pack).isSome:=by cases zbD m r.Pack <;> rfl
 rw [hf,ht,hs,hset,adel_toH]
 unfold badK upd eqV
 generalize (zbD m r.Pack).isSome=q
 generalize ((zbD m r.Pack).getD dH).v=v
 by_cases h1:r.Kind=1
 ·simp only [h1,decide_true,decide_false,cond_true,cond_false,Bool.true_or,Bool.or_true,Bool.or_self,show ((1:Int)=5)=False from by simp]
  cases q <;> cases decide (r.Result=0) <;> rfl
 by_cases h2:r.Kind=2
 ·rw [h2]
  cases (!q || !((decide (v.Major=r.From.Major)) && ((decide (v.Minor=r.From.Minor)) && ((decide (v.Patch=r.From.Patch)) && (decide (v.Early=r.From.Early)))))) <;> cases decide (r.Result=0) <;> rfl
 by_cases h3:r.Kind=3
 ·rw [h3]
  cases (!q || !((decide (v.Major=r.From.Major)) && ((decide (v.Minor=r.From.Minor)) && ((decide (v.Patch=r.From.Patch)) && (decide (v.Early=r.From.Early)))))) <;> cases decide (r.Result=0) <;> rfl
 by_cases h4:r.Kind=4
 ·rw [h4]
  cases (!q || !((decide (v.Major=r.From.Major)) && ((decide (v.Minor=r.From.Minor)) && ((decide (v.Patch=r.From.Patch)) && (decide (v.Early=r.From.Early)))))) <;> cases decide (r.Result=0) <;> rfl
 by_cases h5:r.Kind=5
 ·rw [h5]
  cases (!q || !((decide (v.Major=r.To.Major)) && ((decide (v.Minor=r.To.Minor)) && ((decide (v.Patch=r.To.Patch)) && (decide (v.Early=r.To.Early)))))) <;> cases decide (r.Result=0) <;> rfl
 rw [decide_eq_false h1,decide_eq_false h2,decide_eq_false h3,decide_eq_false h4,decide_eq_false h5]
 cases decide (r.Result=0) <;> rfl
def zdx (last:Int) (m:Mh) (r:api_Record):Int:=or2 (zhv r) (bif decide (r.Time < last) then 7 else wh (badK r (zbD m r.Pack)) 12)
def zer:Int→Mh→List api_Record→Int
 | _,_,[]=>0
 | last,m,r::l=>or2 (zdx last m r) (zer r.Time (upd r m) l)
def rowE (l:List api_Record):Int:=bif decide (5000 < (l.length:Int)) then 4 else zer 0 [] l
def zdS (pre:List api_Record):Int:=match pre.getLast? with
 | none=>0
 | some r=>r.Time
theorem rec_loop (L:List api_Record) {f:Nat→api_Record→List (Str × api_Had)→(List (Str × api_Had)→Option Int)→(List (Str × api_Had)→Option Int)→Option Int} {K:List (Str × api_Had)→Option Int} (hK:∀ s,K s=some 0)
  (hf:∀ pre r l m nx,L=pre++r::l→Pr r→m.length≤1000000→f pre.length r (toH m) nx K=bif !decide (zdx (zdS pre) m r=0) then some (zdx (zdS pre) m r) else nx (toH (upd r m))) :
  ∀ (l pre:List api_Record) (m:Mh),L=pre++l→(∀ r ∈ l,Pr r)→m.length+l.length≤1000000→forL l pre.length f (toH m) K=some (zer (zdS pre) m l)
 | [],_,_,_,_,_=>by unfold forL; rw [hK]; rfl
 | r::l,pre,m,he,hp,hm=>by
  have hm':m.length+(l.length+1)≤1000000:=hm
  unfold forL
  rw [hf pre r l m _ he (hp r (by simp)) (by omega)]
  have ih:=rec_loop L hK hf l (pre++[r]) (upd r m) (by rw [he]; simp) (fun x hx=>hp x (by simp [hx])) (by have:=upd_le r m; omega)
  rw [show (pre++[r]).length=pre.length+1 by simp] at ih
  rw [ih,zc3]
  have:zdS (pre++[r])=r.Time:=by unfold zdS; simp
  rw [this]
  rfl
theorem eRec_time {r:api_Record} (h:zhv r=0):0≤r.Time∧r.Time≤1099511627776:=by
 unfold zhv eHead at h
 rw [zbT,zdO] at h
 unfold wh at h
 cases hb:(decide (r.Time < 0)) || (decide (1099511627776 < r.Time))
 ·simp only [Bool.or_eq_false_iff,decide_eq_false_iff_not] at hb
  omega
 ·rw [hb] at h
  rw [show (bif true then (3:Int) else 0)=3 from rfl,zgO (by decide)] at h
  cases h
theorem zhA (l:List api_Record) (hp:∀ r ∈ l,Pr r):zca l=some (rowE l):=by
 unfold zca rowE
 cases h5:decide (5000 < (l.length:Int))
 ·have hl:=of_decide_eq_false h5
  simp only [cond_false]
  rw [zaY]
  refine rec_loop l (fun _=>rfl) (fun pre r rest m nx he hr hm=>?_) l [] [] rfl hp (by simp only [List.length_nil]; omega)
  have hpl:pre.length < l.length:=by rw [he]; simp
  rw [zcg r hr,zd,zkx r m hm]
  simp only [zaY,zag]
  rw [zg (fun hg=>by
   simp only [Bool.and_eq_true,decide_eq_true_eq] at hg
   rw [zah (by omega) (by omega)]
   omega)]
  unfold zdx
  by_cases h:zhv r=0
  ·rw [h,or2_0,decide_eq_true rfl,Bool.true_and]
   have ht:=eRec_time h
   rcases List.eq_nil_or_concat pre with rfl | ⟨q,x,rfl⟩
   ·have h0:decide ((0:Int) < (([]:List api_Record).length:Int))=false:=rfl
    have hd0:decide (r.Time < 0)=false:=decide_eq_false (by omega)
    rw [h0,show zdS []=0 from rfl,hd0]
    simp only [Bool.false_and,cond_false,decide_true,cond_true]
    cases badK r (zbD m r.Pack) <;> rfl
   ·have hlt:zdS (q.concat x)=x.Time:=by unfold zdS; simp
    have h0:decide ((0:Int) < ((q.concat x).length:Int))=true:=decide_eq_true (by simp)
    have hw:IntKind.i64.wrap (((q.concat x).length:Int) - 1)=(q.length:Int):=by
     rw [List.length_concat]; rw [zah (by omega) (by rw [List.length_concat] at hpl; omega)]; omega
    have hg:l.getD q.length (api_Record.mk 0 0 [] (api_Version.mk 0 0 0 []) (api_Version.mk 0 0 0 []) 0 [])=x:=by
     rw [he,List.concat_eq_append,List.append_assoc,List.getD_eq_getElem?_getD,List.getElem?_append_right (Nat.le_refl _)]; simp
    rw [h0,hw,Int.toNat_natCast,hg,hlt]
    simp only [Bool.true_and]
    cases decide (r.Time < x.Time)
    ·simp only [cond_false,decide_true,cond_true]
     cases badK r (zbD m r.Pack) <;> rfl
    ·rfl
  ·rw [zgO h,decide_eq_false h]
   simp only [Bool.false_and,cond_false,h,decide_false,Bool.not_false,cond_true]
 ·rfl
abbrev RZ:api_Record:=api_Record.mk 0 0 [] (api_Version.mk 0 0 0 []) (api_Version.mk 0 0 0 []) 0 []
def rEq (x y:api_Record):Bool:=(decide (x.Time=y.Time)) && ((decide (x.Kind=y.Kind)) && ((decide (x.Pack=y.Pack)) && ((decide (x.From.Major=y.From.Major)) && ((decide (x.From.Minor=y.From.Minor)) && ((decide (x.From.Patch=y.From.Patch)) && ((decide (x.From.Early=y.From.Early)) && ((decide (x.To.Major=y.To.Major)) && ((decide (x.To.Minor=y.To.Minor)) && ((decide (x.To.Patch=y.To.Patch)) && ((decide (x.To.Early=y.To.Early)) && ((decide (x.Result=y.Result)) && (decide (x.Note=y.Note)))))))))))))
theorem rEq_self (x:api_Record):rEq x x=true:=by unfold rEq; simp only [decide_true,Bool.and_self]
theorem anyOf_one {α β:Type} {p:α→Prop} {k:α→Option β} {z:β} (x0:α) (h0:p x0) (h:∀ x,p x→k x=some z):anyOf p k=some z:=by
 unfold anyOf
 have he:∃ z,∀ x,p x→k x=some z:=⟨z,h⟩
 rw [dif_pos he]
 have:=he.choose_spec x0 h0
 rw [h x0 h0] at this
 exact this.symm
theorem clone_eq (l:List api_Record) (h:l.length≤274877906944):zx l=some l:=by
 unfold zx
 refine anyOf_one false (fun e=>by cases e) fun b hb=>?_
 cases b
 ·simp only [cond_false,List.nil_append]
  exact zg h _
 ·rw [hb rfl]; rfl
theorem rowE_len {l:List api_Record} (h:rowE l=0):l.length≤5000:=by
 unfold rowE at h
 cases hb:decide (5000 < (l.length:Int))
 ·have:=of_decide_eq_false hb; omega
 ·rw [hb] at h; cases h
theorem getD_at {a:List api_Record} {k:Nat} (h:k < a.length) (d:api_Record):a.getD k d=a[k]:=by rw [List.getD_eq_getElem?_getD,List.getElem?_eq_getElem h]; rfl
theorem landed_eq:zeH=some true:=by
 unfold zeH
 rw [zgD]
 decide +kernel
theorem zj1:∀ (l:List api_Record) (last:Int) (m:Mh) (k:Nat),zer last m l=0→zer last m (l.take k)=0
 | [],_,_,_,_=>by simp [zer]
 | _::_,_,_,0,_=>rfl
 | r::l,last,m,k+1,h=>by
  simp only [List.take_succ_cons,zer] at *
  have h1:zdx last m r=0:=by
   by_cases h1:zdx last m r=0
   ·exact h1
   ·rw [zgO h1] at h; exact h
  rw [h1,or2_0] at h
  rw [h1,or2_0]
  exact zj1 l _ _ k h
section
variable {K V:Type} [DecidableEq K]
end
section
variable {α S β:Type}
end
section
variable {V A:Type}
end
theorem zcb (a b:Int):or2 a b=0 ↔ a=0∧b=0:=by
 unfold or2
 by_cases h:a=0
 ·simp [h]
 ·rw [decide_eq_false h,Bool.not_false,cond_true]
  simp [h]
def zfU:Mh→List api_Record→Mh
 | m,[]=>m
 | m,r::l=>zfU (upd r m) l
theorem mapOf_le:∀ (l:List api_Record) (m:Mh),(zfU m l).length≤m.length+l.length
 | [],_=>Nat.le_refl _
 | r::l,m=>by
  have h1:=mapOf_le l (upd r m)
  have h2:=upd_le r m
  simp only [zfU,List.length_cons]; omega
theorem rowE_recs {l:List api_Record} (h:rowE l=0):zer 0 [] l=0:=by
 have hl:=rowE_len h
 unfold rowE at h
 rw [decide_eq_false (by omega)] at h
 exact h
theorem zhd {b:Bool} {e:Int} (he:e ≠ 0) (h:wh b e=0):b=false:=by
 cases b
 ·rfl
 ·exact absurd h he
def zhe (v:api_Version):Str :=
 bif !decide (v.Early=[]) then ((((Go.Lib.itoa v.Major++[46])++Go.Lib.itoa v.Minor)++[46])++Go.Lib.itoa v.Patch)++([45]++v.Early)
 else (((Go.Lib.itoa v.Major++[46])++Go.Lib.itoa v.Minor)++[46])++Go.Lib.itoa v.Patch
theorem Itoa_eq {n:Int} (h0:0≤n) (h1:n≤1000000000):strconv_Itoa n=some (Go.Lib.itoa n):=by
 unfold strconv_Itoa
 exact zg (by omega) _
theorem zfI {n:Int} (h0:0≤n) (h1:n≤1000000000):(Go.Lib.itoa n).length≤21:=Go.Lib.itoa_length_le n (by omega) (by omega)
theorem vE_rng {v:api_Version} (h:vE v=0):(0≤v.Major∧v.Major≤999999)∧(0≤v.Minor∧v.Minor≤999999)∧(0≤v.Patch∧v.Patch≤999999):=by
 unfold vE at h
 cases hb:zeP v.Major && (zeP v.Minor && zeP v.Patch)
 ·rw [hb] at h; cases h
 ·unfold zeP at hb
  simp only [Bool.and_eq_true,decide_eq_true_eq] at hb
  exact hb
theorem vtext_len {v:api_Version} (h:vE v=0):(zhe v).length≤110:=by
 obtain ⟨⟨a1,a2⟩,⟨b1,b2⟩,⟨c1,c2⟩⟩:=vE_rng h
 have l1:=zfI a1 (by omega)
 have l2:=zfI b1 (by omega)
 have l3:=zfI c1 (by omega)
 have l4:=zin h
 unfold zhe
 cases !decide (v.Early=[]) <;> simp only [cond_true,cond_false,List.length_append,List.length_cons,List.length_nil] <;> omega
theorem text_eq {v:api_Version} (h:vE v=0):zfC v=some (zhe v):=by
 obtain ⟨⟨a1,a2⟩,⟨b1,b2⟩,⟨c1,c2⟩⟩:=vE_rng h
 have l1:=zfI a1 (by omega)
 have l2:=zfI b1 (by omega)
 have l3:=zfI c1 (by omega)
 have l4:=zin h
 unfold zfC
 rw [Itoa_eq a1 (by omega),Itoa_eq b1 (by omega),Itoa_eq c1 (by omega)]
 simp only [zd]
 iterate 6 rw [zg (by simp only [List.length_append,List.length_cons,List.length_nil]; omega)]
 rw [zc3]; rfl
theorem VText_eq {v:api_Version} (h:vE v=0):zcM v=some (zhe v):=by
 rw [show zcM v=zfC v from rfl,text_eq h]
theorem Print_eq {v:api_Version} (h:vE v=0):zfd v=some (zhe v,0):=by
 unfold zfd
 rw [zd7 v (by have:=zin h; omega),zd,h,decide_eq_true rfl,Bool.not_true,cond_false,text_eq h,zd]
def hN (n:Nat) (c:UInt8):Nat:=((n ^^^ c.toNat) * 1099511628211) % 18446744073709551616
theorem hN_lt (n:Nat) (c:UInt8):hN n c < 18446744073709551616:=Nat.mod_lt _ (by decide)
theorem hashI_nat (n:Nat) (h:n < 18446744073709551616) (c:UInt8):zlb (n:Int) c=((hN n c:Nat):Int):=by
 have hc:c.toNat < 256:=c.toNat_lt
 have h1:zaz .xor .u64 (n:Int) (IntKind.u64.wrap (c.toNat:Int))=((n ^^^ c.toNat:Nat):Int):=by
  rw [wrapU _ (by omega)]
  show IntKind.u64.wrap (((BitVec.ofInt 64 (n:Int) ^^^ BitVec.ofInt 64 (c.toNat:Int)).toNat:Nat):Int)=_
  rw [BitVec.toNat_xor,BitVec.toNat_ofInt,BitVec.toNat_ofInt]
  have e1:((n:Int) % ((2 ^ 64:Nat):Int)).toNat=n:=by omega
  have e2:((c.toNat:Int) % ((2 ^ 64:Nat):Int)).toNat=c.toNat:=by omega
  rw [e1,e2]
  exact wrapU _ (Nat.xor_lt_two_pow (n:=64) h (by omega))
 unfold zlb hN
 rw [h1]
 generalize n ^^^ c.toNat=q
 unfold IntKind.wrap
 simp only [IntKind.bits,IntKind.signed,Bool.false_and,Bool.false_eq_true,if_false]
 omega
theorem mulP_id (a:Nat) (ha:a < 18446744073709551616):(a * 1099511628211 * 14886173955864302971) % 18446744073709551616=a:=by
 rw [Nat.mul_assoc,Nat.mul_mod,show (1099511628211 * 14886173955864302971) % 18446744073709551616=1 from by decide +kernel,Nat.mul_one,Nat.mod_mod]
 exact Nat.mod_eq_of_lt ha
theorem mulP_inj {a b:Nat} (ha:a < 18446744073709551616) (hb:b < 18446744073709551616) (h:(a * 1099511628211) % 18446744073709551616=(b * 1099511628211) % 18446744073709551616):a=b:=by
 rw [← mulP_id a ha,← mulP_id b hb,Nat.mul_mod (a * 1099511628211),h,← Nat.mul_mod]
theorem xor_lt {n:Nat} (hn:n < 18446744073709551616) (c:UInt8):n ^^^ c.toNat < 18446744073709551616 :=
 Nat.xor_lt_two_pow (n:=64) hn (by have:=c.toNat_lt; omega)
theorem hN_h {n m:Nat} {c:UInt8} (hn:n < 18446744073709551616) (hm:m < 18446744073709551616) (h:hN n c=hN m c):n=m:=by
 have:=mulP_inj (xor_lt hn c) (xor_lt hm c) h
 have e:=congrArg (· ^^^ c.toNat) this
 simpa [Nat.xor_assoc] using e
theorem hN_c {n:Nat} {c d:UInt8} (hn:n < 18446744073709551616) (h:hN n c=hN n d):c=d:=by
 have:=mulP_inj (xor_lt hn c) (xor_lt hn d) h
 have e:=congrArg (n ^^^ ·) this
 simp only [← Nat.xor_assoc,Nat.xor_self,Nat.zero_xor] at e
 exact UInt8.toNat_inj.1 e
def hF (n:Nat) (s:Str):Nat:=s.foldl hN n
theorem hF_lt:∀ (s:Str) {n:Nat},n < 18446744073709551616→hF n s < 18446744073709551616
 | [],_,h=>h
 | c::s,_,_=>hF_lt s (hN_lt _ c)
theorem hF_eq:∀ (s:Str) (n:Nat),n < 18446744073709551616→s.foldl zlb (n:Int)=((hF n s:Nat):Int)
 | [],_,_=>rfl
 | c::s,n,h=>by
  rw [List.foldl_cons,hashI_nat n h,hF_eq s _ (hN_lt _ _)]; rfl
theorem hashZ_hF (s:Str):hashZ s=((hF 14695981039346656037 s:Nat):Int):=hF_eq s _ (by decide)
theorem hF_inj:∀ (s:Str) {n m:Nat},n < 18446744073709551616→m < 18446744073709551616→hF n s=hF m s→n=m
 | [],_,_,_,_,h=>h
 | c::s,_,_,hn,hm,h=>hN_h hn hm (hF_inj s (hN_lt _ _) (hN_lt _ _) h)
theorem hF_app (n:Nat) (a b:Str):hF n (a++b)=hF (hF n a) b:=List.foldl_append
theorem hF_ne (a b:Str) {c d:UInt8} (h:c ≠ d) {n:Nat} (hn:n < 18446744073709551616):hF n (a++c::b) ≠ hF n (a++d::b):=fun e=>by
 rw [hF_app,hF_app] at e
 exact h (hN_c (hF_lt a hn) (hF_inj b (hN_lt _ _) (hN_lt _ _) e))
theorem dg_inj:∀ m n:Fin 16,dg m.val=dg n.val→m=n:=by decide
theorem hx_inj:∀ (k n m:Nat),n < 16 ^ k→m < 16 ^ k→hx k n=hx k m→n=m
 | 0,n,m,hn,hm,_=>by simp at hn hm; omega
 | k+1,n,m,hn,hm,h=>by
  unfold hx at h
  have hl:(hx k (n / 16)).length=(hx k (m / 16)).length:=by rw [zgZ,zgZ]
  obtain ⟨h1,h2⟩:=List.append_inj h hl
  rw [Nat.pow_succ] at hn hm
  have:=hx_inj k _ _ (by omega) (by omega) h1
  have e:=dg_inj ⟨n % 16,Nat.mod_lt _ (by decide)⟩ ⟨m % 16,Nat.mod_lt _ (by decide)⟩ (List.cons.inj h2).1
  have e':n % 16=m % 16:=congrArg Fin.val e
  omega
theorem sum_ne (a b:Str) {c d:UInt8} (h:c ≠ d):zaC (a++c::b) ≠ zaC (a++d::b):=fun e=>by
 unfold zaC at e
 rw [hashZ_hF,hashZ_hF] at e
 simp only [Int.toNat_natCast] at e
 have k:∀ s,hF 14695981039346656037 s < 16 ^ 16:=fun s=>hF_lt s (by decide)
 exact hF_ne a b h (by decide) (hx_inj 16 _ _ (k _) (k _) e)
theorem dg_plain:∀ m:Fin 16,dg m.val ≠ 32∧dg m.val ≠ 10:=by decide
theorem zla:∀ (k n:Nat),∀ c ∈ hx k n,c ≠ 32∧c ≠ 10
 | 0,_,c,h=>by cases h
 | k+1,n,c,h=>by
  unfold hx at h
  rcases List.mem_append.1 h with h | h
  ·exact zla k _ c h
  ·rw [List.mem_singleton.1 h]; exact dg_plain ⟨n % 16,Nat.mod_lt _ (by decide)⟩
theorem sum_sp (s:Str):(32:UInt8) ∉ zaC s:=fun h=>(zla _ _ _ h).1 rfl
theorem sum_nl (s:Str):(10:UInt8) ∉ zaC s:=fun h=>(zla _ _ _ h).2 rfl
theorem body_pre:∀ (a b z:Str),body a++[34]=body b++34::z→z=[]∧a=b
 | [],[],z,h=>by simp [body] at h; exact ⟨h,rfl⟩
 | [],y::b,z,h=>by
  rw [zb9,List.append_assoc] at h
  have:=congrArg sym h
  rw [ziu] at this
  cases this
 | x::a,[],z,h=>by
  rw [zb9,List.append_assoc] at h
  have:=congrArg sym h
  rw [ziu] at this
  cases this
 | x::a,y::b,z,h=>by
  rw [zb9,zb9,List.append_assoc,List.append_assoc] at h
  have:=congrArg sym h
  rw [ziu,ziu] at this
  injection this with this
  injection this with h1 h2
  obtain ⟨h3,h4⟩:=body_pre a b z h2
  exact ⟨h3,by rw [h1,h4]⟩
theorem quote_pre {a b z:Str} (h:zaD a=zaD b++z):z=[]:=by
 unfold zaD at h
 rw [List.cons_append] at h
 injection h with _ h
 rw [List.append_assoc] at h
 exact (body_pre a b z h).1
theorem esc_nl:∀ c:UInt8,(10:UInt8) ∉ esc c:=fun c=>u8all (p:=fun c=>(10:UInt8) ∉ esc c) (by decide +kernel) c
theorem body_nl (t:Str):(10:UInt8) ∉ body t:=fun h=>by
 unfold body at h
 obtain ⟨c,_,h⟩:=List.mem_flatMap.1 h
 exact esc_nl c h
theorem quote_nl (t:Str):(10:UInt8) ∉ zaD t:=fun h=>by
 unfold zaD at h
 simp only [List.mem_cons,List.mem_append,List.not_mem_nil,or_false] at h
 rcases h with h | h | h
 ·cases h
 ·exact body_nl t h
 ·cases h
def six (ws:List Str) (t:Str):Str:=ws.foldr (fun w acc=>w++32::acc) t
def zhV (B:Str):Prop:=∃ ws y,ws.length=6∧(∀ w ∈ ws,(32:UInt8) ∉ w)∧B=six ws (zaD y)
theorem cut_uniq {c:UInt8}:∀ {a a' b b':Str},c ∉ a→c ∉ a'→a++c::b=a'++c::b'→a=a'∧b=b'
 | [],[],_,_,_,_,h=>by simpa using h
 | [],y::a',_,_,_,h2,h=>by simp at h h2; exact absurd h.1 h2.1
 | x::a,[],_,_,h1,_,h=>by simp at h h1; exact absurd h.1.symm h1.1
 | x::a,y::a',b,b',h1,h2,h=>by
  simp only [List.cons_append,List.cons.injEq] at h
  simp only [List.mem_cons,not_or] at h1 h2
  obtain ⟨h3,h4⟩:=cut_uniq h1.2 h2.2 h.2
  exact ⟨by rw [h.1,h3],h4⟩
theorem six_app (ws:List Str) (t z:Str):six ws t++z=six ws (t++z):=by
 induction ws with
 | nil=>rfl
 | cons w ws ih=>simp only [six,List.foldr_cons,List.append_assoc,List.cons_append] at *; rw [ih]
theorem six_uniq:∀ {ws vs:List Str} {t u:Str},ws.length=vs.length→(∀ w ∈ ws,(32:UInt8) ∉ w)→(∀ w ∈ vs,(32:UInt8) ∉ w)→six ws t=six vs u→t=u
 | [],[],_,_,_,_,_,h=>h
 | [],_::_,_,_,hl,_,_,_=>by cases hl
 | _::_,[],_,_,hl,_,_,_=>by cases hl
 | w::ws,v::vs,t,u,hl,h1,h2,h=>by
  simp only [six,List.foldr_cons] at h
  obtain ⟨_,h'⟩:=cut_uniq (h1 w (by simp)) (h2 v (by simp)) h
  exact six_uniq (by simpa using hl) (fun x hx=>h1 x (by simp [hx])) (fun x hx=>h2 x (by simp [hx])) h'
theorem zhk {X B z:Str} (hX:zhV X) (hB:zhV B) (h:X=B++z):z=[]:=by
 obtain ⟨ws,y,l1,h1,rfl⟩:=hX
 obtain ⟨vs,x,l2,h2,rfl⟩:=hB
 rw [six_app] at h
 exact quote_pre (six_uniq (by rw [l1,l2]) h1 h2 h)
def Ln (X:Str):Prop:=zhV X∧(10:UInt8) ∉ X
def zbG (p:Str):List Str→Str
 | []=>[]
 | X::Xs=>X++32::(zaC (p++X)++10::zbG (zaC (p++X)) Xs)
def ze0 (p:Str):List Str→Str
 | []=>p
 | X::Xs=>ze0 (zaC (p++X)) Xs
theorem sumL_app:∀ (a b:List Str) (p:Str),ze0 p (a++b)=ze0 (ze0 p a) b
 | [],_,_=>rfl
 | X::a,b,p=>sumL_app a b _
def Bad (p s:Str):Prop:=(10:UInt8) ∉ s ∨ ∃ line rest,s=line++10::rest∧(10:UInt8) ∉ line∧((32:UInt8) ∉ line ∨ ∃ B W,line=B++32::W∧(32:UInt8) ∉ W∧(W ≠ zaC (p++B) ∨ ¬ zhV B))
theorem zfK (p X:Str):(X++32::zaC (p++X)).length=X.length+17:=by simp [zar]
theorem zi6 {p X:Str} (h:Ln X):(10:UInt8) ∉ X++32::zaC (p++X):=fun e=>by
 simp only [List.mem_append,List.mem_cons] at e
 rcases e with e | e | e
 ·exact h.2 e
 ·cases e
 ·exact sum_nl _ e
theorem zaP (p X:Str) (Xs:List Str):zbG p (X::Xs)=(X++32::zaC (p++X))++10::zbG (zaC (p++X)) Xs:=by simp [zbG]
theorem zhu {A Z:Str} (h:(10:UInt8) ∉ A) (n:Nat):(10:UInt8) ∉ (A++10::Z).take n ∨ ∃ rest,(A++10::Z).take n=A++10::rest:=by
 rw [List.take_append]
 rcases Nat.lt_or_ge A.length n with h1 | h1
 ·refine .inr ⟨Z.take (n - A.length - 1),?_⟩
  rw [List.take_of_length_le (by omega)]
  obtain ⟨j,hj⟩:∃ j,n - A.length=j+1:=⟨n - A.length - 1,by omega⟩
  rw [hj,List.take_succ_cons]; rfl
 ·rw [show n - A.length=0 by omega,List.take_zero,List.append_nil]
  exact .inl fun e=>h (List.mem_of_mem_take e)
theorem zeC {c:UInt8} {s:Str} (h:c ∉ s):s.count c=0:=List.count_eq_zero.2 h
theorem cut_tail:∀ (Xs:List Str) (p:Str) (n:Nat),(∀ X ∈ Xs,Ln X)→∃ m,m≤Xs.length∧∃ t,(zbG p Xs).take n=zbG p (Xs.take m)++t∧(10:UInt8) ∉ t∧m=((zbG p Xs).take n).count 10∧(m < Xs.length→n < (zbG p (Xs.take (m+1))).length)
 | [],p,n,_=>⟨0,Nat.le_refl _,[],by simp [zbG]⟩
 | X::Xs,p,n,h=>by
  have hX:=h X (by simp)
  have hl:=zfK p X
  have hn:=zi6 (p:=p) hX
  rw [zaP]
  rcases Nat.lt_or_ge (X.length+17) n with h1 | h1
  ·obtain ⟨m,h2,t,h3,h4,h5,h6⟩:=cut_tail Xs (zaC (p++X)) (n - (X.length+18)) (fun Y hY=>h Y (by simp [hY]))
   have e:((X++32::zaC (p++X))++10::zbG (zaC (p++X)) Xs).take n=(X++32::zaC (p++X))++10::(zbG (zaC (p++X)) Xs).take (n - (X.length+18)):=by
    rw [List.take_append,List.take_of_length_le (by omega),hl]
    obtain ⟨j,hj⟩:∃ j,n - (X.length+17)=j+1:=⟨n - (X.length+18),by omega⟩
    rw [hj,List.take_succ_cons,show n - (X.length+18)=j by omega]
   refine ⟨m+1,by simp; omega,t,?_,h4,?_,fun h7=>?_⟩
   ·rw [e,h3,List.take_succ_cons,zaP]; simp
   ·rw [e,List.count_append,zeC hn,List.count_cons_self,← h5]; omega
   ·rw [List.take_succ_cons,zaP]
    have:=h6 (by simpa using h7)
    simp only [List.length_append,List.length_cons,zar] at this ⊢; omega
  ·have e:((X++32::zaC (p++X))++10::zbG (zaC (p++X)) Xs).take n=(X++32::zaC (p++X)).take n:=by
    rw [List.take_append,show n - (X++32::zaC (p++X)).length=0 by omega,List.take_zero,List.append_nil]
   have hn':(10:UInt8) ∉ (X++32::zaC (p++X)).take n:=fun e=>hn (List.mem_of_mem_take e)
   refine ⟨0,by omega,_,(by rw [List.take_zero]; rfl),by rw [e]; exact hn',by rw [e,zeC hn'],fun _=>?_⟩
   rw [List.take_succ_cons,zaP]
   simp only [List.length_append,List.length_cons,zar]; omega
theorem zfO:∀ {A:Str},(32:UInt8) ∈ A→∃ B W,A=B++32::W∧(32:UInt8) ∉ W
 | [],h=>by cases h
 | x::A,h=>by
  by_cases h1:(32:UInt8) ∈ A
  ·obtain ⟨B,W,rfl,h2⟩:=zfO h1
   exact ⟨x::B,W,rfl,h2⟩
  ·rcases List.mem_cons.1 h with rfl | h
   ·exact ⟨[],A,rfl,h1⟩
   ·exact absurd h h1
theorem pre_of {B W X T:Str} (h:B++32::W=X++T) (hT:(32:UInt8) ∉ T):∃ y,X=B++32::y:=by
 rcases List.append_eq_append_iff.1 h with ⟨a,h1,h2⟩ | ⟨a,h1,h2⟩
 ·cases a with
  | nil=>rw [List.nil_append] at h2; exact absurd (by rw [← h2]; simp) hT
  | cons x a =>
   rw [List.cons_append] at h2
   injection h2 with e _
   subst e
   exact ⟨a,h1⟩
 ·exact absurd (by rw [h2]; simp) hT
theorem bad_line {p X A T:Str} (hX:Ln X) (h:∃ T',X++T'=A++T∧(32:UInt8) ∉ T' ∨ X=A++T):(32:UInt8) ∉ A ∨ ∃ B W,A=B++32::W∧(32:UInt8) ∉ W∧(W ≠ zaC (p++B) ∨ ¬ zhV B):=by
 by_cases hs:(32:UInt8) ∈ A
 ·obtain ⟨B,W,rfl,hW⟩:=zfO hs
  refine .inr ⟨B,W,rfl,hW,.inr fun hq=>?_⟩
  obtain ⟨T',h | h⟩:=h
  ·obtain ⟨h,hT⟩:=h
   rw [List.append_assoc,List.cons_append] at h
   obtain ⟨y,e⟩:=pre_of h.symm hT
   cases zhk hX.1 hq e
  ·rw [List.append_assoc,List.cons_append] at h
   cases zhk hX.1 hq h
 ·exact .inl hs
theorem ziz (X:Str) (k:Nat) (c:UInt8) (h:k < X.length):X.set k c=X.take k++c::X.drop (k+1)∧X=X.take k++X[k]::X.drop (k+1):=by
 refine ⟨List.set_eq_take_append_cons_drop.trans (if_pos h),?_⟩
 rw [List.getElem_cons_drop,List.take_append_drop]
theorem chg_first (p X:Str) (Xs:List Str) (hX:Ln X) (hXs:∀ Y ∈ Xs,Ln Y) (k:Nat) (hk:k < X.length+18) (c:UInt8) (hc:(X++32::(zaC (p++X)++[10])).getD k 0 ≠ c) (n:Nat):Bad p (((zbG p (X::Xs)).set k c).take n):=by
 have hl:=zfK p X
 have hn:=zi6 (p:=p) hX
 have hS:=zar (p++X)
 have hns:=sum_nl (p++X)
 have hsp:=sum_sp (p++X)
 rw [zaP]
 rcases Nat.lt_or_ge k (X.length+17) with h1 | h1
 ·rw [List.set_append_left _ _ (by omega)]
  by_cases hc10:c=10
  ·subst hc10
   rw [(ziz _ k 10 (by omega)).1,List.append_assoc,List.cons_append]
   have hA:(10:UInt8) ∉ (X++32::zaC (p++X)).take k:=fun e=>hn (List.mem_of_mem_take e)
   rcases zhu hA n with h | ⟨rest,h⟩
   ·exact .inl h
   ·refine .inr ⟨_,rest,h,hA,?_⟩
    rcases Nat.lt_or_ge X.length k with h2 | h2
    ·refine .inr ⟨X,(zaC (p++X)).take (k - X.length - 1),?_,fun e=>hsp (List.mem_of_mem_take e),.inl fun e=>?_⟩
     ·rw [List.take_append,List.take_of_length_le (by omega)]
      obtain ⟨j,hj⟩:∃ j,k - X.length=j+1:=⟨k - X.length - 1,by omega⟩
      rw [hj,List.take_succ_cons]; rfl
     ·have:=congrArg List.length e
      rw [List.length_take,hS] at this; omega
    ·refine bad_line hX ⟨[],.inr ?_⟩ (T:=X.drop k)
     rw [List.take_append,show k - X.length=0 by omega,List.take_zero,List.append_nil,List.take_append_drop]
  ·have hA:(10:UInt8) ∉ (X++32::zaC (p++X)).set k c:=fun e=>by
    rcases List.mem_or_eq_of_mem_set e with e | e
    ·exact hn e
    ·exact hc10 e.symm
   rcases zhu (Z:=zbG (zaC (p++X)) Xs) hA n with h | ⟨rest,h⟩
   ·exact .inl h
   ·refine .inr ⟨_,rest,h,hA,?_⟩
    rcases Nat.lt_trichotomy k X.length with h2 | h2 | h2
    ·rw [List.set_append_left _ _ h2]
     refine .inr ⟨X.set k c,zaC (p++X),rfl,hsp,.inl fun e=>?_⟩
     obtain ⟨e1,e2⟩:=ziz X k c h2
     have hd:X[k] ≠ c:=by
      rw [List.getD_eq_getElem?_getD,List.getElem?_append_left h2,List.getElem?_eq_getElem h2] at hc
      exact hc
     rw [e1] at e
     have e':zaC (p++X)=zaC ((p++X.take k)++X[k]::X.drop (k+1)):=by rw [List.append_assoc,← e2]
     rw [e',← List.append_assoc] at e
     exact sum_ne _ _ hd e
    ·subst h2
     rw [List.set_append_right _ _ (Nat.le_refl _),Nat.sub_self,List.set_cons_zero]
     have hd:c ≠ 32:=fun e=>hc (by
      rw [List.getD_eq_getElem?_getD,List.getElem?_append_right (Nat.le_refl _),Nat.sub_self]; exact e.symm)
     exact bad_line hX ⟨c::zaC (p++X),.inl ⟨(List.append_nil _).symm,fun e=>by
      rcases List.mem_cons.1 e with e | e
      ·exact hd e.symm
      ·exact hsp e⟩⟩
    ·obtain ⟨j,hj⟩:∃ j,k - X.length=j+1:=⟨k - X.length - 1,by omega⟩
     rw [List.set_append_right _ _ (by omega),hj,List.set_cons_succ]
     have hj16:j < (zaC (p++X)).length:=by omega
     by_cases h32:c=32
     ·subst h32
      refine .inr ⟨X++32::(zaC (p++X)).take j,(zaC (p++X)).drop (j+1),?_,fun e=>hsp (List.mem_of_mem_drop e),.inl fun e=>?_⟩
      ·rw [(ziz _ j 32 hj16).1]; simp
      ·have:=congrArg List.length e
       rw [List.length_drop,hS,zar] at this; omega
     ·refine .inr ⟨X,(zaC (p++X)).set j c,rfl,fun e=>?_,.inl fun e=>?_⟩
      ·rcases List.mem_or_eq_of_mem_set e with e | e
       ·exact hsp e
       ·exact h32 e.symm
      ·have hd:(zaC (p++X))[j] ≠ c:=fun e'=>hc (by
        rw [List.getD_eq_getElem?_getD,List.getElem?_append_right (by omega),hj,List.getElem?_cons_succ,List.getElem?_append_left hj16,List.getElem?_eq_getElem hj16]; exact e')
       have:=congrArg (fun l=>l[j]?) e
       simp only [List.getElem?_set_self hj16,List.getElem?_eq_getElem hj16] at this
       exact hd (Option.some.inj this).symm
 ·have hk':k=X.length+17:=by omega
  rw [List.set_append_right _ _ (by omega),hl,show k - (X.length+17)=0 by omega,List.set_cons_zero]
  have hd:c ≠ 10:=fun e=>hc (by
   rw [List.getD_eq_getElem?_getD,List.getElem?_append_right (by omega),show k - X.length=16+1 by omega,List.getElem?_cons_succ,List.getElem?_append_right (by omega),hS]; exact e.symm)
  cases Xs with
  | nil =>
   refine .inl fun e=>?_
   have e:=List.mem_of_mem_take e
   simp only [zbG] at e
   rcases List.mem_append.1 e with e | e
   ·exact hn e
   ·rw [List.mem_singleton] at e; exact hd e.symm
  | cons Y Ys =>
   have hY:=hXs Y (by simp)
   rw [zaP]
   have e:(X++32::zaC (p++X))++c::((Y++32::zaC (zaC (p++X)++Y))++10::zbG (zaC (zaC (p++X)++Y)) Ys)=((X++32::(zaC (p++X)++c::Y))++32::zaC (zaC (p++X)++Y))++10::zbG (zaC (zaC (p++X)++Y)) Ys:=by simp
   rw [e]
   have hA:(10:UInt8) ∉ (X++32::(zaC (p++X)++c::Y))++32::zaC (zaC (p++X)++Y):=by
    have q1:=hX.2; have q2:=hY.2; have q3:=sum_nl (zaC (p++X)++Y)
    simp only [List.mem_append,List.mem_cons,not_or]
    exact ⟨⟨q1,by decide,hns,fun e=>hd e.symm,q2⟩,by decide,q3⟩
   rcases zhu (Z:=zbG (zaC (zaC (p++X)++Y)) Ys) hA n with h | ⟨rest,h⟩
   ·exact .inl h
   ·refine .inr ⟨_,rest,h,hA,.inr ⟨_,_,rfl,sum_sp _,.inr fun hq=>?_⟩⟩
    cases zhk hq hX.1 rfl
theorem chg_tail:∀ (Xs:List Str) (p:Str) (k n:Nat) (c:UInt8),(∀ X ∈ Xs,Ln X)→k < (zbG p Xs).length→(zbG p Xs).getD k 0 ≠ c→∃ m,m≤Xs.length∧∃ t,((zbG p Xs).set k c).take n=zbG p (Xs.take m)++t∧Bad (ze0 p (Xs.take m)) t∧m=((zbG p Xs).take (min k n)).count 10
 | [],p,k,n,c,_,hk,_=>by simp [zbG] at hk
 | X::Xs,p,k,n,c,h,hk,hc=>by
  have hX:=h X (by simp)
  have hl:=zfK p X
  have hn:=zi6 (p:=p) hX
  rcases Nat.lt_or_ge k (X.length+18) with h1 | h1
  ·refine ⟨0,by omega,_,(by rw [List.take_zero]; rfl),?_,?_⟩
   ·rw [List.take_zero]
    refine chg_first p X Xs hX (fun Y hY=>h Y (by simp [hY])) k h1 c ?_ n
    rw [zbG] at hc
    rw [show X++32::(zaC (p++X)++10::zbG (zaC (p++X)) Xs)=(X++32::(zaC (p++X)++[10]))++zbG (zaC (p++X)) Xs by simp] at hc
    rw [List.getD_eq_getElem?_getD,List.getElem?_append_left (by simp [zar]; omega),← List.getD_eq_getElem?_getD] at hc
    exact hc
   ·rw [zaP,List.take_append,show min k n - (X++32::zaC (p++X)).length=0 by omega,List.take_zero,List.append_nil,zeC fun e=>hn (List.mem_of_mem_take e)]
  ·have hk2:k - (X.length+18) < (zbG (zaC (p++X)) Xs).length:=by
    rw [zaP,List.length_append,hl,List.length_cons] at hk; omega
   have hc2:(zbG (zaC (p++X)) Xs).getD (k - (X.length+18)) 0 ≠ c:=by
    rw [zaP,List.getD_eq_getElem?_getD,List.getElem?_append_right (by omega),hl,show k - (X.length+17)=(k - (X.length+18))+1 by omega,List.getElem?_cons_succ,← List.getD_eq_getElem?_getD] at hc
    exact hc
   obtain ⟨m,h2,t,h3,h4,h5⟩:=chg_tail Xs (zaC (p++X)) (k - (X.length+18)) (n - (X.length+18)) c (fun Y hY=>h Y (by simp [hY])) hk2 hc2
   have es:((X++32::zaC (p++X))++10::zbG (zaC (p++X)) Xs).set k c=(X++32::zaC (p++X))++10::(zbG (zaC (p++X)) Xs).set (k - (X.length+18)) c:=by
    rw [List.set_append_right _ _ (by omega),hl,show k - (X.length+17)=(k - (X.length+18))+1 by omega,List.set_cons_succ]
   have et:∀ (Z:Str) (n:Nat),X.length+17 < n→((X++32::zaC (p++X))++10::Z).take n=(X++32::zaC (p++X))++10::Z.take (n - (X.length+18)):=fun Z n hh=>by
    rw [List.take_append,List.take_of_length_le (by omega),hl]
    obtain ⟨j,hj⟩:∃ j,n - (X.length+17)=j+1:=⟨n - (X.length+18),by omega⟩
    rw [hj,List.take_succ_cons,show n - (X.length+18)=j by omega]
   have es0:∀ (Z:Str) (n:Nat),n≤X.length+17→((X++32::zaC (p++X))++10::Z).take n=(X++32::zaC (p++X)).take n:=fun Z n hh=>by
    rw [List.take_append,show n - (X++32::zaC (p++X)).length=0 by omega,List.take_zero,List.append_nil]
   rw [zaP,es]
   rcases Nat.lt_or_ge (X.length+17) n with h6 | h6
   ·refine ⟨m+1,by simp; omega,t,?_,?_,?_⟩
    ·rw [et _ n h6,h3,List.take_succ_cons,zaP]; simp
    ·rw [List.take_succ_cons]; exact h4
    ·rw [et _ _ (by omega),List.count_append,zeC hn,List.count_cons_self,show min k n - (X.length+18)=min (k - (X.length+18)) (n - (X.length+18)) by omega,← h5]; omega
   ·have hn':(10:UInt8) ∉ (X++32::zaC (p++X)).take n:=fun e=>hn (List.mem_of_mem_take e)
    refine ⟨0,by omega,_,(by rw [List.take_zero]; rfl),?_,?_⟩
    ·rw [es0 _ n h6]; exact .inl hn'
    ·rw [es0 _ _ (by omega),show min k n=n by omega,zeC hn']
theorem lastB_run (s:Str) (hl:s.length≤17179869184) (T:Int) (hT:((32:UInt8) ∉ s∧T=-1) ∨ ∃ b:Nat,T=b∧∃ h:b < s.length,s[b]=32∧∀ j (h:j < s.length),b < j→s[j] ≠ 32):zz s 32=some T:=by
 unfold zz
 obtain ⟨N,hN⟩:∃ N,zc4=N:=⟨_,rfl⟩
 have hN2:1099511627776≤N:=hN ▸ zbQ
 rw [hN]
 clear hN
 simp only [zaY]
 refine zbM (S:=Int) (fun st=>∃ i:Nat,st=(i:Int) - 1∧i≤s.length∧∀ j (h:j < s.length),i≤j→s[j] ≠ 32) (fun st=>(st+1).toNat) (fun _=>some T) ?_ N _ ⟨s.length,by rw [zah (by omega) (by omega)],Nat.le_refl _,fun j h h'=>by omega⟩ (by rw [zah (by omega) (by omega)]; omega)
 rintro _ nx ⟨i,rfl,hi,hb⟩ hnx
 cases i with
 | zero =>
  rw [decide_eq_false (by omega),cond_false]
  rcases hT with ⟨_,rfl⟩ | ⟨b,_,h,hs,_⟩
  ·rfl
  ·exact absurd hs (hb b h (by omega))
 | succ j =>
  rw [show (((j+1:Nat):Int) - 1)=(j:Int) by omega,decide_eq_true (by omega),cond_true,zcG (by omega)]
  by_cases h32:s[j]'(by omega)=32
  ·rw [h32]
   refine (bif_t (by decide) _ _).trans ?_
   rcases hT with ⟨hn,_⟩ | ⟨b,rfl,h,hs,hlast⟩
   ·exact absurd (h32 ▸ List.getElem_mem (by omega)) hn
   ·have h1:¬ j+1≤b:=fun e=>hb b h e hs
    have h2:¬ b < j:=fun e=>hlast j (by omega) e h32
    rw [show j=b by omega]
  ·rw [decide_eq_false (fun e=>h32 (UInt8.toNat_inj.1 (by have:((s[j]'(by omega)).toNat:Int)=32:=e; show (s[j]'(by omega)).toNat=32; omega))),cond_false]
   refine hnx _ ⟨j,by rw [zah (by omega) (by omega)],by omega,fun q hq hjq=>?_⟩ (by rw [zah (by omega) (by omega)]; omega)
   rcases Nat.eq_or_lt_of_le hjq with rfl | h
   ·exact h32
   ·exact hb q hq h
theorem zfH {s:Str} (h:(32:UInt8) ∉ s) (hl:s.length≤17179869184):zC s 32=some (-1):=by
 unfold zC
 rw [lastB_run s hl (-1) (.inl ⟨h,rfl⟩)]; rfl
theorem lastB_at {B W:Str} (h:(32:UInt8) ∉ W):∃ hb:B.length < (B++32::W).length,(B++32::W)[B.length]=32∧∀ j (h:j < (B++32::W).length),B.length < j→(B++32::W)[j] ≠ 32:=by
 refine ⟨by simp,by rw [List.getElem_append_right (Nat.le_refl _)]; simp,fun j hj hb e=>?_⟩
 rw [List.getElem_append_right (by omega)] at e
 obtain ⟨q,hq⟩:∃ q,j - B.length=q+1:=⟨j - B.length - 1,by omega⟩
 simp only [hq,List.getElem_cons_succ] at e
 exact h (e ▸ List.getElem_mem _)
theorem zdA {B W:Str} (h:(32:UInt8) ∉ W) (hl:(B++32::W).length≤17179869184):zC (B++32::W) 32=some (B.length:Int):=by
 unfold zC
 rw [lastB_run _ hl _ (.inr ⟨B.length,rfl,lastB_at h⟩)]; rfl
theorem lastI_eq (s:Str):zbf s [32]=zC s 32:=by
 unfold zbf zC
 rw [zfV (by decide),bif_t (by decide)]
 show zd1 [32] ((0:Nat):Int) _=_
 rw [zcG (by decide)]
 rfl
def zb4:Nat→Str→List Str
 | 0,s=>[s]
 | k+1,s=>if (32:UInt8) ∈ s then (zat 32 s).1::zb4 k (zat 32 s).2.1 else [s]
theorem splitK_none {s:Str} (h:(32:UInt8) ∉ s):∀ k,zb4 k s=[s]
 | 0=>rfl
 | k+1=>if_neg h
theorem zix (s:Str) (hs:s.length≤17179869184):zby s [32] 7=some (zb4 6 s):=by
 have key:zav s [32] 0 7=some (zb4 6 s):=by
  unfold zav
  obtain ⟨N,hN⟩:∃ N,zc4=N:=⟨_,rfl⟩
  have hN2:1099511627776≤N:=hN ▸ zbQ
  rw [hN]
  clear hN
  simp only [zaY,show decide ((7:Int)=0)=false from rfl,show decide ((7:Int) < 0)=false from rfl,show decide (([32]:Str)=[])=false from rfl,cond_true,cond_false]
  simp only [zd2 s.length (by omega)]
  obtain ⟨M,hM,hM7,hMs⟩:∃ M:Nat,min (7:Int) ((s.length+1:Nat):Int)=((M+1:Nat):Int)∧M≤6∧(M=6 ∨ M=s.length):=⟨min 6 s.length,by omega,by omega,by omega⟩
  rw [hM,zg (by omega)]
  have hw:IntKind.i64.wrap (((M+1:Nat):Int) - 1)=((M:Nat):Int):=by rw [zah (by omega) (by omega)]; omega
  simp only [hw,Int.toNat_natCast]
  refine (zbM (S:=Str × Int × List Str) (fun st=>∃ i:Nat,st.2.1=i∧st.2.2.length=M+1∧i≤M∧i+st.1.length≤s.length) (fun st=>M - st.2.1.toNat)
   (fun st=>some (st.2.2.take st.2.1.toNat++zb4 (6 - st.2.1.toNat) st.1)) ?_ N _ ⟨0,rfl,by simp,by omega,by simp⟩ (by simp only; omega)).trans ?_
  ·rintro ⟨t,i',o⟩ nx ⟨i,rfl,ho,hi,ht⟩ hnx
   simp only at ho ht hi hnx ⊢
   simp only [zif,zd]
   have stop:(32:UInt8) ∉ t ∨ i=6→(chk (0≤(i:Int)∧(i:Int) < (o.length:Int)) <| chk (0≤IntKind.i64.wrap ((i:Int)+1)∧IntKind.i64.wrap ((i:Int)+1)≤((List.set o i t).length:Int)) <| some (List.take ((IntKind.i64.wrap ((i:Int)+1)).toNat) (List.set o i t)))=some (o.take i++zb4 (6 - i) t):=fun h=>by
    rw [zg (by omega),zd2 _ (by omega)]
    simp only [Int.toNat_natCast,List.length_set]
    rw [zg (by omega),zia o _ _ (by omega)]
    rcases h with h | rfl
    ·rw [splitK_none h]
    ·rfl
   by_cases hi2:i < M
   ·rw [decide_eq_true (by omega),cond_true]
    by_cases hmem:(32:UInt8) ∈ t
    ·obtain ⟨h1,h2,h3⟩:=zbz hmem
     have hl:=(zdc 32 t).2.2 h1
     obtain ⟨t1,t2⟩:=zhw hmem
     rw [zie hmem,decide_eq_false (by omega),cond_false]
     have hw3:IntKind.i64.wrap (((zat 32 t).1.length:Int)+0)=((zat 32 t).1.length:Int):=by rw [zah (by omega) (by omega)]; omega
     have hw4:IntKind.i64.wrap (((zat 32 t).1.length:Int)+(([32]:Str).length:Int))=(((zat 32 t).1.length+1:Nat):Int):=zd2 _ (by omega)
     simp only [hw3,hw4,zd2 i (by omega),Int.toNat_natCast]
     rw [zg (by omega),zg (by omega),zg (by omega)]
     simp only [t1,t2]
     rw [hnx _ ⟨i+1,rfl,by simpa using ho,by omega,by simp only; omega⟩ (by simp only [Int.toNat_natCast]; omega)]
     simp only [Int.toNat_natCast]
     rw [zia o i _ (by omega),show 6 - i=(6 - (i+1))+1 by omega,zb4,if_pos hmem]
     simp
    ·rw [zk6 hmem,bif_t (by decide)]
     exact stop (.inl hmem)
   ·obtain rfl:i=M:=by omega
    rw [decide_eq_false (by omega),cond_false]
    refine stop ?_
    rcases hMs with h | h
    ·exact .inr h
    ·refine .inl fun hm=>?_
     have:t.length=0:=by omega
     rw [List.length_eq_zero_iff.1 this] at hm
     cases hm
  ·simp
 unfold zby
 rw [key]; rfl
theorem zjW:∀ (ws:List Str) (t:Str),(∀ w ∈ ws,(32:UInt8) ∉ w)→zb4 ws.length (six ws t)=ws++[t]
 | [],t,_=>rfl
 | w::ws,t,h=>by
  have hw:=h w (by simp)
  show zb4 (ws.length+1) (w++32::six ws t)=_
  rw [zb4,if_pos (by simp),zfu hw]
  simp only
  rw [zjW ws t fun x hx=>h x (by simp [hx])]; rfl
theorem zgj:∀ (k:Nat) (s:Str),(zb4 k s).length=k+1→∃ ws t,zb4 k s=ws++[t]∧ws.length=k∧(∀ w ∈ ws,(32:UInt8) ∉ w)∧s=six ws t
 | 0,s,_=>⟨[],s,rfl,rfl,by simp,rfl⟩
 | k+1,s,h=>by
  rw [zb4] at h ⊢
  by_cases hm:(32:UInt8) ∈ s
  ·rw [if_pos hm] at h ⊢
   obtain ⟨h1,h2,h3⟩:=zbz hm
   obtain ⟨ws,t,e1,e2,e3,e4⟩:=zgj k (zat 32 s).2.1 (by simpa using h)
   refine ⟨(zat 32 s).1::ws,t,by rw [e1]; rfl,by rw [List.length_cons,e2],fun w hw=>?_,?_⟩
   ·rcases List.mem_cons.1 hw with rfl | hw
    ·exact h3
    ·exact e3 w hw
   ·show s=(zat 32 s).1++32::six ws t
    rw [← e4]; exact h2
  ·rw [if_neg hm] at h
   simp at h
theorem zhg:∀ (k:Nat) (s p:Str),p ∈ zb4 k s→p.length≤s.length
 | 0,s,p,h=>by rw [zb4,List.mem_singleton] at h; rw [h]; exact Nat.le_refl _
 | k+1,s,p,h=>by
  rw [zb4] at h
  split at h
  ·have hl:=zdc 32 s
   rcases List.mem_cons.1 h with rfl | h
   ·exact hl.1
   ·exact Nat.le_trans (zhg k _ p h) hl.2.1
  ·rw [List.mem_singleton] at h; rw [h]; exact Nat.le_refl _
theorem zh4 (s o:Str) (h:(o++s).length≤274877906944):zh s o=some ((s.length:Int),o++s):=by
 unfold zh zaQ
 rw [zd,zg h]
theorem join_eq (sep a:Str) (l:List Str) (hsep:sep.length≤1) (hl:l.length≤1000000) (hs:a.length+(l.map List.length).sum≤270000000000):zbJ (a::l) sep=some (a++(l.map (sep++·)).flatten):=by
 unfold zbJ
 simp only [zaY]
 rw [zfV (decide_eq_false (by simp; omega))]
 rcases l with _ | ⟨b,l⟩
 ·rw [bif_t (decide_eq_true (show (([a]:List Str).length:Int)=1 from rfl))]
  show idx [a] ((0:Nat):Int) _=_
  rw [za5 (by simp)]
  simp
 rw [zfV (decide_eq_false (by simp; omega))]
 simp only [List.length_cons] at hl
 have sumloop:∀ (q:List Str) (i:Nat) (n:Nat) (k:Int→Option Str),n+(q.map List.length).sum≤274877906000 →
   forL q i (fun i_62 s_64 n_57 nx_61 k_60=>bif decide ((IntKind.i64.wrap (9223372036854775807 - n_57)) < (s_64.length:Int)) then none else nx_61 (IntKind.i64.wrap (n_57+(s_64.length:Int)))) (n:Int) k=k ((n+(q.map List.length).sum:Nat):Int):=by
  intro q
  induction q with
  | nil=>intro i n k h; simp [forL]
  | cons x q ih =>
   intro i n k h
   simp only [List.map_cons,List.sum_cons] at h
   unfold forL
   dsimp only
   rw [zah (n:=9223372036854775807 - (n:Int)) (by omega) (by omega),zfV (decide_eq_false (by omega)),show (n:Int)+(x.length:Int)=((n+x.length:Nat):Int) by omega,wrapN _ (by omega)]
   rw [ih (i+1) (n+x.length) k (by omega)]
   simp only [List.map_cons,List.sum_cons,Nat.add_assoc]
 have wl:∀ (q:List Str) (i:Nat) (o:Str),q.length≤1000000→o.length+(q.map List.length).sum+q.length≤274877906944 →
   forL q i (fun i_52 s_54 o1_46 nx_51 k_50 =>
    call (zh sep o1_46) fun r_55 =>
    call (zh s_54 r_55.2) fun r_56 =>
    nx_51 r_56.2) o (fun o1_46=>call (zA o1_46) fun r_39=>some r_39)=some (o++(q.map (sep++·)).flatten):=by
  intro q
  induction q with
  | nil=>intro i o _ h; simp [forL,zA,zd]
  | cons x q ih =>
   intro i o h1 h
   simp only [List.map_cons,List.sum_cons,List.length_cons] at h h1
   unfold forL
   dsimp only
   rw [zh4 _ _ (by simp; omega),zd]
   dsimp only
   rw [zh4 _ _ (by simp; omega),zd]
   dsimp only
   rw [ih _ _ (by omega) (by simp; omega)]
   simp
 simp only [List.map_cons,List.sum_cons] at hs
 have fin:∀ n0:Nat,n0≤1000001→forL (a::b::l) 0 (fun i_62 s_64 n_57 nx_61 k_60=>bif decide ((IntKind.i64.wrap (9223372036854775807 - n_57)) < (s_64.length:Int)) then none else nx_61 (IntKind.i64.wrap (n_57+(s_64.length:Int)))) (n0:Int) (fun n_57=>call (zaN n_57 []) fun r_17 =>
   idx (a::b::l) 0 fun s_18 =>
   call (zh s_18 []) fun r_19 =>
   chk (0≤1∧1≤((a::b::l).length:Int)) <|
   forL (List.drop 1 (a::b::l)) 0 (fun i_52 s_54 o1_46 nx_51 k_50 =>
    call (zh sep o1_46) fun r_55 =>
    call (zh s_54 r_55.2) fun r_56 =>
    nx_51 r_56.2) r_19.2 (fun o1_46=>call (zA o1_46) fun r_39=>some r_39))=some (a++((b::l).map (sep++·)).flatten):=fun n0 h0=>by
  rw [sumloop (a::b::l) 0 n0 _ (by simp; omega)]
  unfold zaN
  rw [zg (by simp; omega),zd]
  show idx (a::b::l) ((0:Nat):Int) _=_
  rw [za5 (by simp),List.getElem_cons_zero,zh4 _ _ (by simp; omega),zd,zg (by simp; omega)]
  dsimp only
  rw [List.drop_succ_cons,List.drop_zero,wl (b::l) 0 _ (by simp; omega) (by simp; omega)]
  simp
 rcases sep with _ | ⟨c,_ | ⟨d,sep⟩⟩
 ·rw [zfV (by decide)]
  exact fin 0 (by omega)
 ·rw [bif_t (decide_eq_true (by simp))]
  have e1:IntKind.i64.wrap (((a::b::l).length:Int) - 1)=((l.length+1:Nat):Int):=by rw [List.length_cons,List.length_cons,zah (by omega) (by omega)]; omega
  rw [e1,zg (by omega)]
  have e2:1 < IntKind.i64.wrap (Int.tdiv 9223372036854775807 ((l.length+1:Nat):Int)):=by
   have h1:Int.tdiv 9223372036854775807 ((l.length+1:Nat):Int)=((9223372036854775807 / (l.length+1):Nat):Int):=by
    rw [Int.tdiv_eq_ediv_of_nonneg (by decide)]; rfl
   have h2:9223372036854775807 / 1000001≤9223372036854775807 / (l.length+1):=Nat.div_le_div_left (by omega) (by omega)
   have h3:9223372036854775807 / (l.length+1)≤9223372036854775807:=Nat.div_le_self _ _
   rw [h1,wrapN _ h3]
   have:2≤9223372036854775807 / 1000001:=by decide
   omega
  rw [zfV (decide_eq_false (by simp only [List.length_singleton]; omega))]
  have e3:IntKind.i64.wrap (0+(IntKind.i64.wrap ((([c]:Str).length:Int) * ((l.length+1:Nat):Int))))=((l.length+1:Nat):Int):=by
   rw [show (([c]:Str).length:Int)=1 from rfl,Int.one_mul,wrapN _ (by omega),Int.zero_add,wrapN _ (by omega)]
  rw [e3]
  exact fin (l.length+1) (by omega)
 ·simp at hsep
theorem dgc (d:Nat) (h:d < 10):(UInt8.ofNat (48+d)).toNat=48+d:=by
 rw [UInt8.toNat_ofNat']; omega
theorem dgc_B (d:Nat) (h:d < 10):zX (UInt8.ofNat (48+d))=true:=by
 unfold zX
 rw [dgc d h,Bool.and_eq_true,decide_eq_true_eq,decide_eq_true_eq]; omega
theorem val_snoc (l:Str) (c:UInt8):val 0 (l++[c])=val 0 l * 10+(c.toNat - 48):=by unfold val; rw [List.foldl_append]; rfl
structure DD (u:Nat) (l:Str):Prop where
 dig:l.all zX=true
 vl:val 0 l=u
 ne:l ≠ []
 hd:u ≠ 0→(l.getD 0 0).toNat ≠ 48
 len:∀ k,u < 10 ^ (k+1)→l.length≤k+1
theorem dd (u:Nat):DD u (Go.Lib.decDigits u):=by
 induction u using Nat.strongRecOn with
 | ind u ih =>
  unfold Go.Lib.decDigits
  by_cases h:u < 10
  ·rw [dif_pos h]
   refine ⟨by rw [List.all_cons,dgc_B u h]; rfl,by simp only [val,List.foldl_cons,List.foldl_nil]; rw [dgc u h]; omega,by simp,fun h0=>?_,fun k _=>by simp⟩
   show (UInt8.ofNat (48+u)).toNat ≠ 48
   rw [dgc u h]; omega
  ·rw [dif_neg h]
   have q:=ih (u / 10) (by omega)
   have hm:u % 10 < 10:=Nat.mod_lt _ (by decide)
   refine ⟨by rw [List.all_append,q.dig,List.all_cons,dgc_B _ hm]; rfl,by rw [val_snoc,q.vl,dgc _ hm]; omega,by simp,fun _=>?_,fun k hk=>?_⟩
   ·have hl:=List.length_pos_iff.2 q.ne
    rw [List.getD_eq_getElem?_getD,List.getElem?_append_left hl,← List.getD_eq_getElem?_getD]
    exact q.hd (by omega)
   ·rw [List.length_append,List.length_singleton]
    cases k with
    | zero=>simp at hk; omega
    | succ k =>
     rw [Nat.pow_succ] at hk
     have:=q.len k (by omega)
     omega
theorem zcf {n:Int} (h:0≤n):Go.Lib.itoa n=Go.Lib.decDigits n.toNat:=by
 obtain ⟨u,rfl⟩:=Int.eq_ofNat_of_zero_le h
 rw [Go.Lib.itoa_nonneg]; simp
theorem zii {c:UInt8} (h:zX c=true):c ≠ 32∧c ≠ 10∧c ≠ 45∧c ≠ 46:=by
 have:=zef h
 refine ⟨?_,?_,?_,?_⟩ <;> (rintro rfl; revert this; decide)
theorem zlm {l:Str} (h:l.all zX=true):(32:UInt8) ∉ l∧(10:UInt8) ∉ l∧(45:UInt8) ∉ l∧(46:UInt8) ∉ l:=by
 have k:=List.all_eq_true.1 h
 exact ⟨fun e=>(zii (k _ e)).1 rfl,fun e=>(zii (k _ e)).2.1 rfl,fun e=>(zii (k _ e)).2.2.1 rfl,fun e=>(zii (k _ e)).2.2.2 rfl⟩
def zjL (n:Nat) (s:Str):Bool:=!((decide (s=[]) || decide ((n:Int) < (s.length:Int))) || (decide (((s.getD 0 0).toNat:Int)=48) && !decide (s=[48]))) && s.all zX
theorem zeZ {s:Str} (h:s.all zX=true) (hne:s ≠ []) (hl:s.length≤18):zg8 s=(val 0 s:Nat)∧atoiE s=true:=by
 refine ⟨by rw [zgy hl,zjr h hne],?_⟩
 rw [atoiE_short hl]
 cases s with
 | nil=>exact absurd rfl hne
 | cons c l =>
  have hc:zX c=true:=by simp only [List.all_cons,Bool.and_eq_true] at h; exact h.1
  have hr:=zef hc
  have h1:(c == 45)=false:=by
   rw [beq_eq_false_iff_ne]; rintro rfl; revert hr; decide
  have h2:(c == 43)=false:=by
   rw [beq_eq_false_iff_ne]; rintro rfl; revert hr; decide
  unfold Go.Lib.atoi Go.Lib.decNat
  simp only [h1,h2,Bool.false_eq_true,if_false,List.isEmpty_cons,zgu _ 0 h,Option.map_some,Option.isSome_some]
theorem zkX {u n:Nat} (hu:u < 10 ^ (n+1)):zjL (n+1) (Go.Lib.decDigits u)=true:=by
 have q:=dd u
 have hl:=q.len n hu
 unfold zjL
 rw [q.dig,decide_eq_false q.ne,decide_eq_false (by omega),Bool.and_true,Bool.false_or,Bool.false_or]
 by_cases h0:u=0
 ·subst h0
  rw [show Go.Lib.decDigits 0=[48] by unfold Go.Lib.decDigits; rw [dif_pos (by decide)]; rfl]
  decide
 ·rw [decide_eq_false (fun e=>q.hd h0 (by omega))]; rfl
theorem zgW (s:Str):zcq s=some (bif zjL 18 s then (((val 0 s:Nat):Int),true) else (0,false)):=by
 unfold zcq zjL
 by_cases hA:s=[]
 ·subst hA; rfl
 have hpos:=List.length_pos_iff.2 hA
 rw [decide_eq_false hA,zg (fun _=>by omega)]
 by_cases hB:(18:Int) < (s.length:Int)
 ·rw [decide_eq_true hB,show decide (((18:Nat):Int) < (s.length:Int))=true from decide_eq_true hB]; rfl
 rw [decide_eq_false hB,show decide (((18:Nat):Int) < (s.length:Int))=false from decide_eq_false hB]
 cases hC:(decide (((s.getD 0 0).toNat:Int)=48) && !decide (s=([48]:Str)))
 ·simp only [Bool.or_self,Bool.or_false,cond_false,Bool.not_false,Bool.true_and,zaY]
  rw [zcH zX (fun i x nx k=>by
   unfold zX
   by_cases h1:((x.toNat:Int) < 48)
   ·rw [decide_eq_true h1,show decide (48≤(x.toNat:Int))=false from decide_eq_false (by omega)]; rfl
   ·by_cases h2:(57 < (x.toNat:Int))
    ·rw [decide_eq_true h2,show decide ((x.toNat:Int)≤57)=false from decide_eq_false (by omega),Bool.or_true,Bool.and_false]; rfl
    ·rw [decide_eq_false h1,decide_eq_false h2,show decide (48≤(x.toNat:Int))=true from decide_eq_true (by omega),show decide ((x.toNat:Int)≤57)=true from decide_eq_true (by omega)]; rfl)]
  cases hD:s.all zX
  ·rfl
  ·obtain ⟨e1,e2⟩:=zeZ hD hA (by omega)
   unfold zaw
   rw [cond_true,cond_true,zd,e1,e2]
 ·rfl
theorem zeK (s:Str):zbx s=some (bif zjL 9 s then (((val 0 s:Nat):Int),true) else (0,false)):=by
 unfold zbx zjL
 rw [each3_eq,zd]
 unfold zdU
 by_cases hA:s=[]
 ·subst hA; rfl
 have hpos:=List.length_pos_iff.2 hA
 rw [decide_eq_false hA,zg (fun _=>by omega)]
 by_cases hB:(9:Int) < (s.length:Int)
 ·rw [show decide ((s.length:Int)≤9)=false from decide_eq_false (by omega),show decide (((9:Nat):Int) < (s.length:Int))=true from decide_eq_true hB,Bool.and_false,Bool.and_false]; rfl
 rw [show decide ((s.length:Int)≤9)=true from decide_eq_true (by omega),show decide (((9:Nat):Int) < (s.length:Int))=false from decide_eq_false hB]
 cases hD:s.all zX
 ·simp only [Bool.false_and,Bool.not_false,Bool.true_or,cond_true,Bool.and_false,cond_false]
 cases hC:(decide (((s.getD 0 0).toNat:Int)=48) && !decide (s=([48]:Str)))
 ·obtain ⟨e1,e2⟩:=zeZ hD hA (by omega)
  unfold zaw
  simp only [Bool.not_false,Bool.and_self,Bool.not_true,Bool.or_self,cond_false,cond_true,zd,e1,e2]
 ·rfl
theorem head_or (s:Str) (hA:s ≠ []):(decide (1 < (s.length:Int)) && decide (((s.getD 0 0).toNat:Int)=48))=(decide (((s.getD 0 0).toNat:Int)=48) && !decide (s=([48]:Str))):=by
 rw [Bool.eq_iff_iff]
 simp only [Bool.and_eq_true,decide_eq_true_eq,Bool.not_eq_true',decide_eq_false_iff_not]
 constructor
 ·rintro ⟨h1,h2⟩
  exact ⟨h2,fun e=>by rw [e] at h1; simp at h1⟩
 ·rintro ⟨h1,h2⟩
  refine ⟨?_,h1⟩
  rcases s with _ | ⟨c,_ | ⟨d,l⟩⟩
  ·exact absurd rfl hA
  ·refine absurd ?_ h2
   have:c.toNat=48:=by
    have:((c.toNat:Nat):Int)=48:=h1
    omega
   rw [UInt8.toNat_inj.1 (show c.toNat=(48:UInt8).toNat from this)]
  ·simp only [List.length_cons]; omega
theorem zgB (s:Str):zc6 s 9=some (bif zjL 9 s then (((val 0 s:Nat):Int),true) else (0,false)):=by
 unfold zc6 zjL
 rw [show ([48,49,50,51,52,53,54,55,56,57]:Str)=DG from rfl,ofD_eq,zag]
 by_cases hA:s=[]
 ·subst hA; rfl
 have hpos:=List.length_pos_iff.2 hA
 rw [decide_eq_false hA,zg (fun _=>by omega),head_or s hA]
 by_cases hB:(9:Int) < (s.length:Int)
 ·rw [decide_eq_true hB,show decide (((9:Nat):Int) < (s.length:Int))=true from decide_eq_true hB]; rfl
 rw [decide_eq_false hB,show decide (((9:Nat):Int) < (s.length:Int))=false from decide_eq_false hB]
 simp only [Bool.or_self,Bool.not_false,cond_true,Bool.false_or]
 cases hD:s.all zX
 ·simp only [Bool.not_false,Bool.true_or,cond_true,Bool.and_false,cond_false]
 cases hC:(decide (((s.getD 0 0).toNat:Int)=48) && !decide (s=([48]:Str)))
 ·obtain ⟨e1,e2⟩:=zeZ hD hA (by omega)
  unfold zaw
  simp only [Bool.not_false,Bool.and_self,Bool.not_true,Bool.or_self,cond_false,cond_true,zd,e1,e2]
 ·rfl
def rn (s:Str):Int:=bif ((((!atoiE s) || (!decide (Go.Lib.itoa (zg8 s)=s))) || (decide (zg8 s < 0))) || (decide (18 < (s.length:Int)))) then -1 else zg8 s
theorem RR2_eq (s:Str):zaq s=some (rn s):=by
 unfold zaq rn zaw
 rw [zd]
 cases hE:atoiE s
 ·rfl
 ·have hb:-9223372036854775808≤zg8 s∧zg8 s≤9223372036854775807:=by
   unfold atoiE at hE
   unfold zg8
   cases h:Go.Lib.atoiAll s with
   | ok v=>exact Go.Lib.atoiAll_bounds h
   | _=>rw [h] at hE; cases hE
  unfold strconv_Itoa
  rw [zg hb,zag,zc3]; rfl
theorem rn_dd {n:Int} (h:0≤n) (h1:n < 1000000000000000000):rn (Go.Lib.itoa n)=n:=by
 have e:=zcf h
 have q:=dd n.toNat
 have hl:=q.len 17 (by omega)
 obtain ⟨e1,e2⟩:=zeZ q.dig q.ne (by omega)
 have ev:((n.toNat:Nat):Int)=n:=by omega
 rw [q.vl,ev] at e1
 unfold rn
 rw [e,e1,e2,e,decide_eq_true rfl,decide_eq_false (by omega),decide_eq_false (by omega)]; rfl
abbrev VZ:api_Version:=api_Version.mk 0 0 0 []
def vP3 (a b d e:Str):api_Version × Int :=
 bif zjL 9 a then (bif zjL 9 b then (bif zjL 9 d then (bif decide (vE ⟨(val 0 a:Nat),(val 0 b:Nat),(val 0 d:Nat),e⟩=0) then (⟨(val 0 a:Nat),(val 0 b:Nat),(val 0 d:Nat),e⟩,0) else (VZ,vE ⟨(val 0 a:Nat),(val 0 b:Nat),(val 0 d:Nat),e⟩)) else (VZ,8)) else (VZ,8)) else (VZ,8)
def vP (s:Str):api_Version × Int :=
 bif (zat 45 s).2.2 && decide ((zat 45 s).2.1=[]) then (VZ,8) else
 match zD 46 (zat 45 s).1 with
 | [a,b,d]=>vP3 a b d (zat 45 s).2.1
 | _=>(VZ,8)
theorem three {α:Type} {l:List α} (h:l.length=3):∃ a b c,l=[a,b,c]:=by
 rcases l with _ | ⟨a,_ | ⟨b,_ | ⟨c,_ | ⟨d,l⟩⟩⟩⟩ <;> simp at h
 exact ⟨a,b,c,rfl⟩
theorem ver_Parse_eq (s:Str) (hs:s.length≤17179869184):zfe s=some (vP s):=by
 have hc:=zdc 45 s
 unfold zfe vP
 rw [cut_eq s 45 (by omega),zd,zdm _ 46 (by omega),zd]
 generalize hc2:zat 45 s=c at hc ⊢
 generalize zD 46 c.1=p
 by_cases hp:p.length=3
 ·obtain ⟨x,y,w,rfl⟩:=three hp
  rw [show decide (((([x,y,w]:List Str).length:Nat):Int)=3)=true from rfl]
  cases hq:c.2.2 && decide (c.2.1=[])
  ·simp only [Bool.not_true,Bool.or_self,cond_false,zaY]
   rw [zg (show ((([x,y,w]:List Str).length:Nat):Int)=3 from rfl)]
   show idx [x,y,w] ((0:Nat):Int) _=_
   rw [za5 (by simp)]
   show call (zbx x) _=_
   rw [zeK,zd]
   unfold vP3
   cases zjL 9 x
   ·rfl
   simp only [cond_true,Bool.not_true,cond_false]
   show idx [x,y,w] ((1:Nat):Int) _=_
   rw [za5 (by simp)]
   show call (zbx y) _=_
   rw [zeK,zd]
   cases zjL 9 y
   ·rfl
   simp only [cond_true,Bool.not_true,cond_false]
   show idx [x,y,w] ((2:Nat):Int) _=_
   rw [za5 (by simp)]
   show call (zbx w) _=_
   rw [zeK,zd]
   cases zjL 9 w
   ·rfl
   simp only [cond_true,Bool.not_true,cond_false]
   rw [zd7 _ (show c.2.1.length≤_ by omega),zd,zjj]
   simp only [Bool.not_not,zc3]
  ·simp only [Bool.or_true,cond_true]
 ·rw [show decide ((p.length:Int)=3)=false from decide_eq_false (by omega)]
  simp only [Bool.not_false,Bool.true_or,cond_true]
  cases c.2.2 && decide (c.2.1=[])
  ·simp only [cond_false]
   split
   ·exact absurd rfl hp
   ·rfl
  ·rfl
theorem zaM (s:Str) (hs:s.length≤17179869184):zV s=some (vP s):=by
 have hc:=zdc 45 s
 unfold zV vP
 rw [cut_eq s 45 (by omega),zd,zdm _ 46 (by omega),zd]
 generalize hc2:zat 45 s=c at hc ⊢
 generalize zD 46 c.1=p
 by_cases hp:p.length=3
 ·obtain ⟨x,y,w,rfl⟩:=three hp
  rw [show decide (((([x,y,w]:List Str).length:Nat):Int)=3)=true from rfl]
  cases hq:c.2.2 && decide (c.2.1=[])
  ·simp only [Bool.not_true,Bool.or_self,cond_false,zaY]
   show idx [x,y,w] ((0:Nat):Int) _=_
   rw [za5 (by simp)]
   show call (zc6 x 9) _=_
   rw [zgB,zd]
   unfold vP3
   cases zjL 9 x
   ·rfl
   simp only [cond_true,Bool.not_true,cond_false]
   show idx [x,y,w] ((1:Nat):Int) _=_
   rw [za5 (by simp)]
   show call (zc6 y 9) _=_
   rw [zgB,zd]
   cases zjL 9 y
   ·rfl
   simp only [cond_true,Bool.not_true,cond_false]
   show idx [x,y,w] ((2:Nat):Int) _=_
   rw [za5 (by simp)]
   show call (zc6 w 9) _=_
   rw [zgB,zd]
   cases zjL 9 w
   ·rfl
   simp only [cond_true,Bool.not_true,cond_false]
   rw [R_VE_eq _ (show c.2.1.length≤_ by omega),zd,zjj]
   simp only [Bool.not_not,zc3]
  ·simp only [Bool.or_true,cond_true]
 ·rw [show decide ((p.length:Int)=3)=false from decide_eq_false (by omega)]
  simp only [Bool.not_false,Bool.true_or,cond_true]
  cases c.2.2 && decide (c.2.1=[])
  ·simp only [cond_false]
   split
   ·exact absurd rfl hp
   ·rfl
  ·rfl
theorem vP_len (s:Str):(vP s).1.Early.length≤s.length:=by
 have hc:=(zdc 45 s).2.1
 unfold vP vP3
 cases (zat 45 s).2.2 && decide ((zat 45 s).2.1=[])
 ·simp only [cond_false]
  split
  ·rename_i a b d _
   cases zjL 9 a <;> cases zjL 9 b <;> cases zjL 9 d <;> try exact Nat.zero_le _
   simp only [cond_true]
   by_cases hv:vE ⟨(val 0 a:Nat),(val 0 b:Nat),(val 0 d:Nat),(zat 45 s).2.1⟩=0
   ·rw [decide_eq_true hv]; exact hc
   ·rw [decide_eq_false hv]; exact Nat.zero_le _
  ·exact Nat.zero_le _
 ·exact Nat.zero_le _
theorem zim {v:api_Version} (h:vE v=0):vP (zhe v)=(v,0):=by
 obtain ⟨⟨a1,a2⟩,⟨b1,b2⟩,⟨c1,c2⟩⟩:=vE_rng h
 have q1:=dd v.Major.toNat
 have q2:=dd v.Minor.toNat
 have q3:=dd v.Patch.toNat
 have n1:=zlm q1.dig
 have n2:=zlm q2.dig
 have n3:=zlm q3.dig
 have hnum:(45:UInt8) ∉ (((Go.Lib.itoa v.Major++[46])++Go.Lib.itoa v.Minor)++[46])++Go.Lib.itoa v.Patch:=by
  rw [zcf a1,zcf b1,zcf c1]
  simp only [List.mem_append,List.mem_singleton,not_or]
  exact ⟨⟨⟨⟨n1.2.2.1,by decide⟩,n2.2.2.1⟩,by decide⟩,n3.2.2.1⟩
 have hsp:zD 46 ((((Go.Lib.itoa v.Major++[46])++Go.Lib.itoa v.Minor)++[46])++Go.Lib.itoa v.Patch)=[Go.Lib.itoa v.Major,Go.Lib.itoa v.Minor,Go.Lib.itoa v.Patch]:=by
  rw [show (((Go.Lib.itoa v.Major++[46])++Go.Lib.itoa v.Minor)++[46])++Go.Lib.itoa v.Patch=Go.Lib.itoa v.Major++46::(Go.Lib.itoa v.Minor++46::Go.Lib.itoa v.Patch) by simp,zcf a1,zcf b1,zcf c1,zcQ n1.2.2.2,zcQ n2.2.2.2,zco n3.2.2.2]
 have hfin:vP3 (Go.Lib.itoa v.Major) (Go.Lib.itoa v.Minor) (Go.Lib.itoa v.Patch) v.Early=(v,0):=by
  unfold vP3
  rw [zcf a1,zcf b1,zcf c1,zkX (n:=8) (by omega),zkX (n:=8) (by omega),zkX (n:=8) (by omega),q1.vl,q2.vl,q3.vl]
  have e:(⟨(v.Major.toNat:Int),(v.Minor.toNat:Int),(v.Patch.toNat:Int),v.Early⟩:api_Version)=v:=by
   rw [Int.toNat_of_nonneg a1,Int.toNat_of_nonneg b1,Int.toNat_of_nonneg c1]
  rw [e,h]; rfl
 unfold vP zhe
 by_cases he:v.Early=[]
 ·rw [decide_eq_true he,Bool.not_true,cond_false,zdD hnum]
  simp only [Bool.false_and,cond_false]
  rw [hsp,← he]
  exact hfin
 ·rw [decide_eq_false he,Bool.not_false,cond_true,List.singleton_append,zfu hnum]
  simp only [decide_eq_false he,Bool.and_false,cond_false]
  rw [hsp]
  exact hfin
def KW:List Str:=[[],[105,110,115,116,97,108,108],[117,112,100,97,116,101],[98,97,99,107],[114,101,109,111,118,101],[114,101,112,97,105,114],[99,104,101,99,107]]
def kW (k:Int):Str:=KW.getD k.toNat []
def vT (v:api_Version):Str:=bif !zd4 v then [45] else zhe v
def rT (r:api_Record):Str:=six [Go.Lib.itoa r.Time,kW r.Kind,r.Pack,vT r.From,vT r.To,Go.Lib.itoa r.Result] (zaD r.Note)
structure Rok (r:api_Record):Prop where
 t0:0≤r.Time
 t1:r.Time≤1099511627776
 k0:1≤r.Kind
 k1:r.Kind≤6
 pack:zf5 r.Pack=true
 frm:vE r.From=0
 to:vE r.To=0
 r0:0≤r.Result
 r1:r.Result≤18
 note:zfg r.Note=true
theorem zhI {r:api_Record} (h:zhv r=0):Rok r:=by
 unfold zhv at h
 obtain ⟨h1,h⟩:=(zcb _ _).1 h
 obtain ⟨h2,h⟩:=(zcb _ _).1 h
 obtain ⟨_,h4⟩:=(zcb _ _).1 h
 unfold eHead at h1
 unfold eTail at h4
 rw [zbT] at h1 h4
 obtain ⟨a1,h1⟩:=(zcb _ _).1 h1
 obtain ⟨_,h4⟩:=(zcb _ _).1 h4
 rw [zbT] at h1 h4
 obtain ⟨a2,h1⟩:=(zcb _ _).1 h1
 obtain ⟨b2,h4⟩:=(zcb _ _).1 h4
 rw [zbT] at h1 h4
 obtain ⟨a3,_⟩:=(zcb _ _).1 h1
 obtain ⟨b3,_⟩:=(zcb _ _).1 h4
 have a1:=zhd (by decide) a1
 have a2:=zhd (by decide) a2
 have a3:=zhd (by decide) a3
 have b2:=zhd (by decide) b2
 have b3:=zhd (by decide) b3
 simp only [Bool.or_eq_false_iff,decide_eq_false_iff_not,Bool.not_eq_false'] at a1 a2 a3 b2 b3
 exact ⟨by omega,by omega,by omega,by omega,a3,(orL2 h2).1,(orL2 h2).2,by omega,by omega,b3⟩
theorem Rok.pr {r:api_Record} (h:Rok r):Pr r:=⟨by have:=zin h.frm; omega,by have:=zin h.to; omega⟩
def zgM (w:Str):Prop:=(32:UInt8) ∉ w∧(10:UInt8) ∉ w
theorem zgL (n:Int) (h:0≤n):zgM (Go.Lib.itoa n):=by
 rw [zcf h]
 have:=zlm (dd n.toNat).dig
 exact ⟨this.1,this.2.1⟩
theorem kW_plain {k:Int} (h0:1≤k) (h1:k≤6):zgM (kW k):=by
 have:∀ i:Fin 7,(32:UInt8) ∉ KW.getD i.val []∧(10:UInt8) ∉ KW.getD i.val []:=by decide
 exact this ⟨k.toNat,by omega⟩
theorem all_plain {p:UInt8→Bool} (h32:p 32=false) (h10:p 10=false) {w:Str} (h:w.all p=true):zgM w:=by
 have k:=List.all_eq_true.1 h
 exact ⟨fun e=>(by have:=k _ e; rw [h32] at this; cases this),fun e=>(by have:=k _ e; rw [h10] at this; cases this)⟩
theorem zkb {w:Str} (h:zf5 w=true):zgM w∧w ≠ []:=by
 unfold zf5 at h
 simp only [Bool.and_eq_true,Bool.not_eq_true',decide_eq_false_iff_not] at h
 exact ⟨all_plain (by decide) (by decide) h.1.1,h.1.2.1⟩
theorem early_plain {e:Str} (h:e=[] ∨ zeo e=true):zgM e:=by
 rcases h with rfl | h
 ·exact ⟨by simp,by simp⟩
 ·obtain ⟨hw,_⟩:=zdw h
  have key:∀ (n:Nat) (s:Str),s.length≤n→(∀ w ∈ zD 46 s,zd6 w=true)→∀ c ∈ s,c=46 ∨ zgd c=true:=by
   intro n
   induction n with
   | zero=>intro s hs _ c hc; rw [List.length_eq_zero_iff.1 (show s.length=0 by omega)] at hc; cases hc
   | succ n ih =>
    intro s hs hw c hc
    have wc:∀ w,zd6 w=true→∀ c ∈ w,zgd c=true:=fun w hw c hc=>by
     unfold zd6 zdU at hw
     simp only [Bool.and_eq_true] at hw
     exact List.all_eq_true.1 hw.1.1 c hc
    by_cases hm:(46:UInt8) ∈ s
    ·obtain ⟨h1,h2,h3⟩:=zbz hm
     have hl:=(zdc 46 s).2.2 h1
     rw [ziy,if_pos h1] at hw
     rw [h2] at hc
     rcases List.mem_append.1 hc with hc | hc
     ·exact .inr (wc _ (hw _ (by simp)) c hc)
     ·rcases List.mem_cons.1 hc with rfl | hc
      ·exact .inl rfl
      ·exact ih _ (by omega) (fun w h=>hw w (by simp [h])) c hc
    ·rw [zco hm] at hw
     exact .inr (wc s (hw s (by simp)) c hc)
  have k:=key _ e (Nat.le_refl _) hw
  refine ⟨fun hc=>?_,fun hc=>?_⟩ <;> rcases k _ hc with h | h <;> revert h <;> decide
theorem vtext_plain {v:api_Version} (h:vE v=0):zgM (zhe v):=by
 obtain ⟨⟨a1,a2⟩,⟨b1,b2⟩,⟨c1,c2⟩⟩:=vE_rng h
 have p1:=zgL _ a1
 have p2:=zgL _ b1
 have p3:=zgL _ c1
 have p4:=early_plain (zh6 h)
 unfold zgM at *
 unfold zhe
 cases !decide (v.Early=[]) <;> simp only [cond_true,cond_false,List.mem_append,List.mem_singleton,not_or] <;> simp [p1,p2,p3,p4]
theorem vT_plain {v:api_Version} (h:vE v=0):zgM (vT v):=by
 unfold vT
 cases zd4 v
 ·exact ⟨by show (32:UInt8) ∉ ([45]:Str); decide,by show (10:UInt8) ∉ ([45]:Str); decide⟩
 ·exact vtext_plain h
theorem vT_len {v:api_Version} (h:vE v=0):(vT v).length≤110:=by
 unfold vT
 cases zd4 v
 ·show 1≤110; omega
 ·exact vtext_len h
theorem six_nl:∀ {ws:List Str} {t:Str},(∀ w ∈ ws,(10:UInt8) ∉ w)→(10:UInt8) ∉ t→(10:UInt8) ∉ six ws t
 | [],_,_,h=>h
 | w::ws,t,h,ht=>fun e=>by
  rcases List.mem_append.1 (show (10:UInt8) ∈ w++32::six ws t from e) with e | e
  ·exact h w (by simp) e
  ·rcases List.mem_cons.1 e with e | e
   ·cases e
   ·exact six_nl (fun x hx=>h x (by simp [hx])) ht e
theorem Rok.words {r:api_Record} (h:Rok r):∀ w ∈ [Go.Lib.itoa r.Time,kW r.Kind,r.Pack,vT r.From,vT r.To,Go.Lib.itoa r.Result],zgM w:=by
 intro w hw
 simp only [List.mem_cons,List.not_mem_nil,or_false] at hw
 rcases hw with rfl | rfl | rfl | rfl | rfl | rfl
 ·exact zgL _ h.t0
 ·exact kW_plain h.k0 h.k1
 ·exact (zkb h.pack).1
 ·exact vT_plain h.frm
 ·exact vT_plain h.to
 ·exact zgL _ h.r0
theorem Rok.ln {r:api_Record} (h:Rok r):Ln (rT r) :=
 ⟨⟨_,_,rfl,fun w hw=>(h.words w hw).1,rfl⟩,six_nl (fun w hw=>(h.words w hw).2) (quote_nl _)⟩
theorem Rok.split {r:api_Record} (h:Rok r):zb4 6 (rT r)=[Go.Lib.itoa r.Time,kW r.Kind,r.Pack,vT r.From,vT r.To,Go.Lib.itoa r.Result,zaD r.Note] :=
 zjW [Go.Lib.itoa r.Time,kW r.Kind,r.Pack,vT r.From,vT r.To,Go.Lib.itoa r.Result] _ fun w hw=>(h.words w hw).1
theorem kW_len {k:Int}:(kW k).length≤10:=by
 unfold kW
 by_cases h:k.toNat < 7
 ·have:∀ i:Fin 7,(KW.getD i.val []).length≤10:=by decide
  exact this ⟨k.toNat,h⟩
 ·rw [List.getD_eq_getElem?_getD,List.getElem?_eq_none (by show 7≤_; omega)]; exact Nat.zero_le _
structure Lens (r:api_Record):Prop where
 a:(Go.Lib.itoa r.Time).length≤21
 b:(kW r.Kind).length≤10
 c:r.Pack.length≤40
 d:(vT r.From).length≤110
 e:(vT r.To).length≤110
 f:(Go.Lib.itoa r.Result).length≤21
 g:(zaD r.Note).length≤4002
theorem Rok.lens {r:api_Record} (h:Rok r):Lens r :=
 ⟨Go.Lib.itoa_length_le _ (by have:=h.t0; omega) (by have:=h.t1; omega),kW_len,nameOk_len h.pack,vT_len h.frm,vT_len h.to,Go.Lib.itoa_length_le _ (by have:=h.r0; omega) (by have:=h.r1; omega),by have:=quoteS_len r.Note; have:=zgf h.note; omega⟩
theorem Rok.len {r:api_Record} (h:Rok r):(rT r).length≤5000:=by
 have ⟨a,b,c,d,e,f,g⟩:=h.lens
 unfold rT six
 simp only [List.foldr_cons,List.foldr_nil,List.length_append,List.length_cons]
 omega
theorem join7 (a b c d e f g:Str) (h:a.length+b.length+c.length+d.length+e.length+f.length+g.length≤100000):zbJ [a,b,c,d,e,f,g] [32]=some (six [a,b,c,d,e,f] g):=by
 rw [join_eq [32] a [b,c,d,e,f,g] (by decide) (by simp) (by simp only [List.map_cons,List.map_nil,List.sum_cons,List.sum_nil]; omega)]
 simp [six]
theorem kidx {Z:Type} {k:Int} (h0:1≤k) (h1:k≤6) (f:Str→Option Z):idx KW k f=f (kW k):=by
 obtain ⟨n,rfl⟩:=Int.eq_ofNat_of_zero_le (show 0≤k by omega)
 rw [za5 (show n < KW.length by show n < 7; omega)]
 unfold kW
 rw [Int.toNat_natCast,List.getD_eq_getElem?_getD,List.getElem?_eq_getElem (show n < KW.length by show n < 7; omega)]; rfl
theorem itoaR {n:Int} (h0:0≤n) (h1:n≤1099511627776):strconv_Itoa n=some (Go.Lib.itoa n):=by
 unfold strconv_Itoa
 exact zg (by omega) _
theorem zfX {v:api_Version} (h:vE v=0):zbl v=some (vT v):=by
 unfold zbl vT zd4
 rw [Bool.not_not]
 cases ((decide (v.Major=0)) && ((decide (v.Minor=0)) && ((decide (v.Patch=0)) && (decide (v.Early=[])))))
 ·rw [cond_false,Print_eq h]; rfl
 ·rfl
theorem zfx {v:api_Version} (h:vE v=0):zbA v=some (vT v):=by
 unfold zbA vT zd4
 rw [Bool.not_not]
 cases ((decide (v.Major=0)) && ((decide (v.Minor=0)) && ((decide (v.Patch=0)) && (decide (v.Early=[])))))
 ·rw [cond_false,VText_eq h]; rfl
 ·rfl
theorem zkN {r:api_Record} (h:Rok r):zb5 r=some (rT r):=by
 have ⟨a,b,c,d,e,f,g⟩:=h.lens
 unfold zb5
 rw [itoaR h.t0 h.t1,zd]
 show idx KW r.Kind _=_
 rw [kidx h.k0 h.k1,zfX h.frm,zd,zfX h.to,zd,itoaR h.r0 (by have:=h.r1; omega),zd,zll _ (by have:=zgf h.note; omega),zd,join7 _ _ _ _ _ _ _ (by omega),zd]
 rfl
theorem zjx {r:api_Record} (h:Rok r):zdd r=some (rT r):=by
 have ⟨a,b,c,d,e,f,g⟩:=h.lens
 unfold zdd
 rw [itoaR h.t0 h.t1,zd]
 show idx KW r.Kind _=_
 rw [kidx h.k0 h.k1,zfx h.frm,zd,zfx h.to,zd,itoaR h.r0 (by have:=h.r1; omega),zd,zky _ (by have:=zgf h.note; omega),zd,join7 _ _ _ _ _ _ _ (by omega),zd]
 rfl
theorem zio (t:Str):unqS (zaD t)=(t,0):=by
 have hl:(zaD t).length=(body t).length+2:=by simp [zaD]
 have hq:zf2 (zaD t)=true:=by
  unfold zf2
  have h0:((zaD t).getD 0 0)=34:=rfl
  have h1:((zaD t).getD ((zaD t).length - 1) 0)=34:=by
   rw [List.getD_eq_getElem?_getD,hl]
   unfold zaD
   rw [show (body t).length+2 - 1=(body t).length+1 by omega,List.getElem?_cons_succ,List.getElem?_append_right (Nat.le_refl _)]
   simp
  rw [h0,h1,decide_eq_false (by omega)]
  decide
 have hm:mid (zaD t)=body t:=by
  unfold mid zaD
  simp
 unfold unqS
 rw [hq,hm,zjV]; rfl
theorem unq_back {s:Str} (h:(unqS s).2=0):s=zaD (unqS s).1:=by
 unfold unqS at h ⊢
 cases hq:zf2 s
 ·rw [hq] at h; cases h
 ·rw [hq,cond_true] at h
  rw [cond_true]
  cases hu:zhW (mid s) with
  | none=>rw [hu] at h; cases h
  | some t =>
   have:=ziq hu
   show s=zaD t
   unfold zaD
   rw [this]
   exact ziG s hq
def kf (w:Str):List Str→Nat→Int→Int
 | [],_,o=>o
 | x::l,i,o=>kf w l (i+1) (bif decide (0 < (i:Int)) && decide (x=w) then (i:Int) else o)
def kI (w:Str):Int:=kf w KW 0 0
theorem kI_kW {k:Int} (h0:1≤k) (h1:k≤6):kI (kW k)=k:=by
 have:∀ i:Fin 7,kI (KW.getD i.val [])=i.val:=by decide
 have e:=this ⟨k.toNat,by omega⟩
 unfold kW
 rw [e]; simp; omega
theorem zi5 {Z:Type} (p:List Str) (hp:1 < p.length) (K:Int→Option Z):∀ (l:List Str) (i:Nat) (o:Int),
  forL l i (fun i_48 s_50 o1_1_42 nx_47 k_46 =>
   chk ((decide (0 < (i_48:Int)))=true→(0≤1∧1 < (p.length:Int))) <|
   bif ((decide (0 < (i_48:Int))) && (decide (s_50=(p.getD 1 [])))) then nx_47 (i_48:Int) else nx_47 o1_1_42) o K=K (kf (p.getD 1 []) l i o)
 | [],_,_=>rfl
 | x::l,i,o=>by
  unfold forL
  dsimp only
  rw [zg (fun _=>by omega)]
  unfold kf
  cases (decide (0 < (i:Int)) && decide (x=p.getD 1 []))
  ·exact zi5 p hp K l (i+1) _
  ·exact zi5 p hp K l (i+1) _
def vO (s:Str):api_Version × Bool:=bif decide (s=([45]:Str)) then (VZ,true) else ((vP s).1,(decide ((vP s).2=0)) && zd4 (vP s).1)
theorem zhC (s:Str) (hs:s.length≤17179869184):za3 s=some (vO s):=by
 unfold za3 vO
 rw [ver_Parse_eq s hs,zd,zc3]; rfl
theorem vO_len (s:Str):(vO s).1.Early.length≤s.length:=by
 unfold vO
 cases decide (s=([45]:Str))
 ·exact vP_len s
 ·exact Nat.zero_le _
theorem vtext_ne {v:api_Version} (h:vE v=0):zhe v ≠ [45]:=fun e=>by
 have:=zim h
 rw [e] at this
 have e2:(vP [45]).2=8:=by decide +kernel
 rw [this] at e2
 cases e2
theorem flagV_no {v:api_Version} (h:zd4 v=false):v=VZ:=by
 unfold zd4 at h
 simp only [Bool.not_eq_false',Bool.and_eq_true,decide_eq_true_eq] at h
 obtain ⟨a,b,c,d⟩:=v
 simp only at h
 rw [h.1,h.2.1,h.2.2.1,h.2.2.2]
theorem zkC {v:api_Version} (h:vE v=0):vO (vT v)=(v,true):=by
 unfold vO vT
 cases hf:zd4 v
 ·rw [Bool.not_false,cond_true,decide_eq_true rfl,cond_true,flagV_no hf]
 ·rw [Bool.not_true,cond_false,decide_eq_false (vtext_ne h),cond_false,zim h,hf]; rfl
def nO (s:Str):Int × Bool:=bif zjL 18 s then (((val 0 s:Nat):Int),true) else (0,false)
theorem zkY {n:Int} (h0:0≤n) (h1:n≤1099511627776):nO (Go.Lib.itoa n)=(n,true):=by
 unfold nO
 rw [zcf h0,zkX (n:=17) (by omega),(dd n.toNat).vl,cond_true,Int.toNat_of_nonneg h0]
def recOf (a b c d e f g:Str):api_Record:=api_Record.mk (nO a).1 (kI b) c (vO d).1 (vO e).1 (nO f).1 (unqS g).1
def pR7 (a b c d e f g:Str):api_Record × Int :=
 bif ((((((decide (kI b=0)) || (!(nO a).2)) || (!(vO d).2)) || (!(vO e).2)) || (!(nO f).2)) || (!decide ((unqS g).2=0))) then (RZ,8) else
 bif !decide (zhv (recOf a b c d e f g)=0) then (RZ,zhv (recOf a b c d e f g)) else (recOf a b c d e f g,0)
def pR (s:Str):api_Record × Int:=match zb4 6 s with
 | [a,b,c,d,e,f,g]=>bif decide (c=[]) then (RZ,8) else pR7 a b c d e f g
 | _=>(RZ,8)
theorem seven {α:Type} {l:List α} (h:l.length=7):∃ a b c d e f g,l=[a,b,c,d,e,f,g]:=by
 rcases l with _ | ⟨a,_ | ⟨b,_ | ⟨c,_ | ⟨d,_ | ⟨e,_ | ⟨f,_ | ⟨g,_ | ⟨x,l⟩⟩⟩⟩⟩⟩⟩⟩ <;> simp at h
 exact ⟨a,b,c,d,e,f,g,rfl⟩
theorem zgc (s:Str) (hs:s.length≤17179869184):zbN s=some (pR s):=by
 have hmem:=zhg 6 s
 unfold zbN pR
 rw [zix s hs,zd]
 generalize zb4 6 s=p at hmem ⊢
 by_cases hp:p.length=7
 ·obtain ⟨a,b,c,d,e,f,g,rfl⟩:=seven hp
  have ha:=hmem a (by simp); have hd:=hmem d (by simp); have he:=hmem e (by simp); have hf:=hmem f (by simp); have hg:=hmem g (by simp)
  rw [zg (fun _=>by rw [hp]; omega),show decide (((([a,b,c,d,e,f,g]:List Str).length:Nat):Int)=7)=true from rfl]
  show (bif (!true || decide (c=[])) then _ else _)=some (bif decide (c=[]) then _ else _)
  rw [Bool.not_true,Bool.false_or]
  cases decide (c=[])
  ·simp only [cond_false,zaY]
   show idx [a,b,c,d,e,f,g] ((2:Nat):Int) _=_
   rw [za5 (by simp)]
   show call (some KW) _=_
   rw [zd,zi5 [a,b,c,d,e,f,g] (by simp)]
   show idx [a,b,c,d,e,f,g] ((0:Nat):Int) _=_
   rw [za5 (by simp)]
   show call (zcq a) _=_
   rw [zgW,zd]
   show idx [a,b,c,d,e,f,g] ((3:Nat):Int) _=_
   rw [za5 (by simp)]
   show call (za3 d) _=_
   rw [zhC d (by omega),zd]
   show idx [a,b,c,d,e,f,g] ((4:Nat):Int) _=_
   rw [za5 (by simp)]
   show call (za3 e) _=_
   rw [zhC e (by omega),zd]
   show idx [a,b,c,d,e,f,g] ((5:Nat):Int) _=_
   rw [za5 (by simp)]
   show call (zcq f) _=_
   rw [zgW,zd]
   show idx [a,b,c,d,e,f,g] ((6:Nat):Int) _=_
   rw [za5 (by simp)]
   show call (zct g) _=_
   rw [zjh g (by omega),zd]
   have hpr:Pr (recOf a b c d e f g):=⟨by have:=vO_len d; show (vO d).1.Early.length≤_; omega,by have:=vO_len e; show (vO e).1.Early.length≤_; omega⟩
   unfold pR7
   show (bif ((((((decide (kI b=0)) || (!(nO a).2)) || (!(vO d).2)) || (!(vO e).2)) || (!(nO f).2)) || (!decide ((unqS g).2=0))) then some (RZ,8) else call (zaU (recOf a b c d e f g)) _)=_
   rw [zee _ hpr,zd,zc3,zc3]
   rfl
  ·rfl
 ·rw [show decide ((p.length:Int)=7)=false from decide_eq_false (by omega)]
  rw [zg (fun h=>by cases h),Bool.not_false,Bool.true_or,cond_true]
  split
  ·exact absurd rfl hp
  ·rfl
theorem pR_text {r:api_Record} (h:zhv r=0):pR (rT r)=(r,0):=by
 have hr:=zhI h
 unfold pR
 rw [hr.split]
 simp only
 have e:recOf (Go.Lib.itoa r.Time) (kW r.Kind) r.Pack (vT r.From) (vT r.To) (Go.Lib.itoa r.Result) (zaD r.Note)=r:=by
  unfold recOf
  rw [zkY hr.t0 hr.t1,kI_kW hr.k0 hr.k1,zkC hr.frm,zkC hr.to,zkY hr.r0 (by have:=hr.r1; omega),zio]
 unfold pR7
 rw [decide_eq_false (zkb hr.pack).2,cond_false,e,zkY hr.t0 hr.t1,kI_kW hr.k0 hr.k1,zkC hr.frm,zkC hr.to,zkY hr.r0 (by have:=hr.r1; omega),zio,decide_eq_false (by have:=hr.k0; omega),h]; rfl
theorem pR_back {s:Str} (h:(pR s).2=0):zhV s∧zhv (pR s).1=0:=by
 by_cases hp:(zb4 6 s).length=7
 ·obtain ⟨ws,t,e1,e2,e3,e4⟩:=zgj 6 s hp
  obtain ⟨a,b,c,d,e,f,g,he⟩:=seven hp
  have ht:t=g:=by
   rw [he] at e1
   have:=congrArg List.getLast? e1
   simpa using this.symm
  subst ht
  unfold pR at h ⊢
  rw [he] at h ⊢
  simp only at h ⊢
  cases hc:decide (c=[])
  ·rw [hc,cond_false] at h
   rw [cond_false]
   unfold pR7 at h ⊢
   cases hb:((((((decide (kI b=0)) || (!(nO a).2)) || (!(vO d).2)) || (!(vO e).2)) || (!(nO f).2)) || (!decide ((unqS t).2=0)))
   ·rw [hb,cond_false] at h
    rw [cond_false]
    simp only [Bool.or_eq_false_iff,Bool.not_eq_false',decide_eq_true_eq] at hb
    have hq:=unq_back hb.2
    cases hx:!decide (zhv (recOf a b c d e f t)=0)
    ·rw [cond_false]
     simp only [Bool.not_eq_false',decide_eq_true_eq] at hx
     exact ⟨⟨ws,_,e2,e3,by rw [← hq]; exact e4⟩,hx⟩
    ·rw [hx,cond_true] at h
     simp only [Bool.not_eq_true',decide_eq_false_iff_not] at hx
     exact absurd h hx
   ·rw [hb] at h; cases h
  ·rw [hc] at h; cases h
 ·unfold pR at h
  split at h
  ·rename_i he
   rw [he] at hp
   exact absurd rfl hp
  ·cases h
theorem sIndex_ok (w:Str):∀ (l:List Str) (i:Nat),∃ n,forL l i (fun i_15 s_17 (s:Unit) nx_14 (k_13:Unit→Option Int)=>bif decide (w=s_17) then some (i_15:Int) else nx_14 ()) () (fun _=>some (-1))=some n
 | [],_=>⟨_,rfl⟩
 | x::l,i=>by
  unfold forL
  dsimp only
  cases decide (w=x)
  ·exact sIndex_ok w l (i+1)
  ·exact ⟨_,rfl⟩
theorem Index_ok (w:Str):Ok (zP KW w) fun _=>True:=by
 obtain ⟨n,h⟩:=sIndex_ok w KW 0
 exact ⟨n,h,trivial⟩
theorem Index_kW {k:Int} (h0:1≤k) (h1:k≤6):zP KW (kW k)=some k:=by
 have:∀ i:Fin 7,zP KW (KW.getD i.val [])=some (i.val:Int):=by decide +kernel
 have e:=this ⟨k.toNat,by omega⟩
 unfold kW
 rw [e]; simp; omega
theorem Ok.idx' {α Z:Type} {Q:Z→Prop} {l:List α} {i:Nat} (h:i < l.length) {k:α→Option Z} (hk:Ok (k l[i]) Q):Ok (idx l (i:Int) k) Q:=by rw [za5 h]; exact hk
theorem zlu (s:Str) (hs:s.length≤17179869184):Ok (zbR s) fun z=>z.2=0→zhV s∧zhv z.1=0∧Pr z.1:=by
 have hmem:=zhg 6 s
 have hback:=zgj 6 s
 unfold zbR
 rw [zix s hs,zd]
 generalize zb4 6 s=p at hmem hback ⊢
 refine Ok.bif (fun _=>?_) (fun hp=>?_)
 ·exact Ok.call ⟨_,rfl,rfl⟩ fun x hx=>Ok.some fun h=>by subst hx; cases h
 simp only [Bool.not_eq_false',decide_eq_true_eq] at hp
 have hp:p.length=7:=by omega
 obtain ⟨a,b,c,d,e,f,g,rfl⟩:=seven hp
 have ha:=hmem a (by simp); have hd:=hmem d (by simp); have he:=hmem e (by simp); have hf:=hmem f (by simp); have hg:=hmem g (by simp)
 obtain ⟨ws,t,e1,e2,e3,e4⟩:=hback hp
 have ht:t=g:=by
  have:=congrArg List.getLast? e1
  simpa using this.symm
 subst ht
 refine Ok.idx' (i:=0) (by simp) ?_
 show Ok (call (zaq a) _) _
 rw [RR2_eq,zd]
 refine Ok.idx' (i:=1) (by simp) (Ok.idx' (i:=2) (by simp) ?_)
 show Ok (call (some KW) _) _
 rw [zd]
 refine Ok.call (Index_ok b) fun k _=>?_
 refine Ok.idx' (i:=5) (by simp) ?_
 show Ok (call (zaq f) _) _
 rw [RR2_eq,zd]
 refine Ok.idx' (i:=6) (by simp) ?_
 show Ok (call (zdY t) _) _
 rw [zhT t (by omega),zd]
 refine Ok.jp (P:=fun st=>(st.1=true→(unqS t).2=0)∧st.2.2.2.2.1.length≤s.length∧st.2.2.2.2.2.2.2.2.length≤s.length) ?_ ?_
 ·rintro ⟨ok,a1,a2,a3,a4,b1,b2,b3,b4⟩ ⟨h1,h2,h3⟩
  simp only at h1 h2 h3 ⊢
  refine Ok.bif (fun _=>?_) (fun hok=>?_)
  ·exact Ok.call ⟨_,rfl,rfl⟩ fun x hx=>Ok.some fun h=>by subst hx; cases h
  simp only [Bool.not_eq_false'] at hok
  have hq:=unq_back (h1 hok)
  have hpr:Pr (api_Record.mk (rn a) k c (api_Version.mk a1 a2 a3 a4) (api_Version.mk b1 b2 b3 b4) (rn f) (unqS t).1):=⟨by show a4.length≤_; omega,by show b4.length≤_; omega⟩
  show Ok (call (zaT (api_Record.mk (rn a) k c (api_Version.mk a1 a2 a3 a4) (api_Version.mk b1 b2 b3 b4) (rn f) (unqS t).1)) _) _
  rw [zcg _ hpr,zd]
  refine Ok.bif (fun he=>?_) (fun he=>?_)
  ·refine Ok.call ⟨_,rfl,rfl⟩ fun x hx=>Ok.some fun h=>?_
   subst hx
   simp only [Bool.not_eq_true',decide_eq_false_iff_not] at he
   exact absurd h he
  ·simp only [Bool.not_eq_false',decide_eq_true_eq] at he
   exact Ok.some fun _=>⟨⟨ws,_,e2,e3,by rw [← hq]; exact e4⟩,he,hpr⟩
 ·intro kk hkk
  have okk:∀ x:Bool,((((x && (decide (0 < k))) && (decide (0≤rn f))) && (decide ((unqS t).2=0)))=true→(unqS t).2=0):=fun x h=>by
   simp only [Bool.and_eq_true,decide_eq_true_eq] at h
   exact h.2
  have ld:=vP_len d
  have le:=vP_len e
  refine Ok.idx' (i:=3) (by simp) ?_
  refine Ok.bif (fun _=>?_) (fun _=>?_)
  ·refine Ok.idx' (i:=4) (by simp) ?_
   refine Ok.bif (fun _=>hkk _ ⟨okk _,Nat.zero_le _,Nat.zero_le _⟩) (fun _=>?_)
   show Ok (call (zV e) _) _
   rw [zaM e (by omega),zd]
   refine Ok.bif (fun _=>hkk _ ⟨fun h=>(by cases h),Nat.zero_le _,?_⟩) (fun _=>hkk _ ⟨okk _,Nat.zero_le _,?_⟩)
   ·show (vP e).1.Early.length≤_; omega
   ·show (vP e).1.Early.length≤_; omega
  ·show Ok (call (zV d) _) _
   rw [zaM d (by omega),zd]
   refine Ok.bif (fun _=>?_) (fun _=>?_)
   ·refine Ok.idx' (i:=4) (by simp) ?_
    refine Ok.bif (fun _=>hkk _ ⟨fun h=>(by cases h),?_,Nat.zero_le _⟩) (fun _=>?_)
    ·show (vP d).1.Early.length≤_; omega
    show Ok (call (zV e) _) _
    rw [zaM e (by omega),zd]
    refine Ok.bif (fun _=>hkk _ ⟨fun h=>(by cases h),?_,?_⟩) (fun _=>hkk _ ⟨fun h=>(by cases h),?_,?_⟩)
    ·show (vP d).1.Early.length≤_; omega
    ·show (vP e).1.Early.length≤_; omega
    ·show (vP d).1.Early.length≤_; omega
    ·show (vP e).1.Early.length≤_; omega
   ·refine Ok.idx' (i:=4) (by simp) ?_
    refine Ok.bif (fun _=>hkk _ ⟨okk _,?_,Nat.zero_le _⟩) (fun _=>?_)
    ·show (vP d).1.Early.length≤_; omega
    show Ok (call (zV e) _) _
    rw [zaM e (by omega),zd]
    refine Ok.bif (fun _=>hkk _ ⟨fun h=>(by cases h),?_,?_⟩) (fun _=>hkk _ ⟨okk _,?_,?_⟩)
    ·show (vP d).1.Early.length≤_; omega
    ·show (vP e).1.Early.length≤_; omega
    ·show (vP d).1.Early.length≤_; omega
    ·show (vP e).1.Early.length≤_; omega
theorem zjw {r:api_Record} (h:zhv r=0):zbR (rT r)=some (r,0):=by
 have hr:=zhI h
 have hlen:=hr.len
 obtain ⟨rt,rk,rp,rf,rto,rres,rnote⟩:=r
 have k0:=hr.k0; have k1:=hr.k1; have t0:=hr.t0; have t1:=hr.t1; have r0:=hr.r0; have r1:=hr.r1; have hf:=hr.frm; have ht:=hr.to; have hpr:=hr.pr; have hsp:=hr.split; have hl:=hr.lens; have hnote:=hr.note
 simp only at k0 k1 t0 t1 r0 r1 hf ht hsp hnote
 have lg:(zaD rnote).length≤4002:=hl.g
 have ld:(vT rf).length≤110:=hl.d
 have le:(vT rto).length≤110:=hl.e
 unfold zbR
 rw [zix _ (by omega),zd,hsp]
 rw [show decide ((([Go.Lib.itoa rt,kW rk,rp,vT rf,vT rto,Go.Lib.itoa rres,zaD rnote]:List Str).length:Int)=7)=true from rfl]
 simp only [Bool.not_true,cond_false,zaY]
 show idx _ ((0:Nat):Int) _=_
 rw [za5 (by simp)]
 show call (zaq (Go.Lib.itoa rt)) _=_
 rw [RR2_eq,zd,rn_dd t0 (by omega)]
 show idx _ ((1:Nat):Int) _=_
 rw [za5 (by simp)]
 show idx _ ((2:Nat):Int) _=_
 rw [za5 (by simp)]
 show call (some KW) _=_
 rw [zd]
 show call (zP KW (kW rk)) _=_
 rw [Index_kW k0 k1,zd]
 show idx _ ((5:Nat):Int) _=_
 rw [za5 (by simp)]
 show call (zaq (Go.Lib.itoa rres)) _=_
 rw [RR2_eq,zd,rn_dd r0 (by omega)]
 show idx _ ((6:Nat):Int) _=_
 rw [za5 (by simp)]
 show call (zdY (zaD rnote)) _=_
 rw [zhT _ (by omega),zd,zio]
 have hok:((((decide (0≤rt)) && (decide (0 < rk))) && (decide (0≤rres))) && (decide (((rnote,(0:Int)).2:Int)=0)))=true:=by
  rw [decide_eq_true t0,decide_eq_true (show 0 < rk by omega),decide_eq_true r0]; rfl
 have fin:∀ (rf' rt':api_Version),rf'=rf→rt'=rto→(call (zaT (api_Record.mk rt rk rp rf' rt' rres rnote)) fun r_36=>bif !decide (r_36=0) then (call (zbB r_36) fun r_37=>some (r_37.1,r_37.2)) else some (api_Record.mk rt rk rp rf' rt' rres rnote,0))=some (api_Record.mk rt rk rp rf rto rres rnote,0):=by
  rintro _ _ rfl rfl
  rw [zcg _ hpr,zd,h]; rfl
 have flag:∀ v:api_Version,((decide (v.Major=0)) && ((decide (v.Minor=0)) && ((decide (v.Patch=0)) && (decide (v.Early=[])))))=!zd4 v:=fun v=>by unfold zd4; rw [Bool.not_not]
 have eta:∀ v:api_Version,api_Version.mk v.Major v.Minor v.Patch v.Early=v:=fun v=>rfl
 show idx _ ((3:Nat):Int) _=_
 rw [za5 (by simp)]
 show (bif decide (vT rf=([45]:Str)) then _ else _)=_
 have hz:∀ {v:api_Version},zd4 v=false→vT v=[45]∧v=VZ:=fun {v} hv=>⟨by unfold vT; rw [hv]; rfl,flagV_no hv⟩
 have hx:∀ {v:api_Version},vE v=0→zd4 v=true→vT v=zhe v∧vT v ≠ [45]:=fun {v} hv hfl=>by
  have:vT v=zhe v:=by unfold vT; rw [hfl]; rfl
  exact ⟨this,by rw [this]; exact vtext_ne hv⟩
 cases hff:zd4 rf
 ·obtain ⟨e1,e2⟩:=hz hff
  rw [decide_eq_true e1,cond_true]
  show idx _ ((4:Nat):Int) _=_
  rw [za5 (by simp)]
  show (bif decide (vT rto=([45]:Str)) then _ else _)=_
  cases hft:zd4 rto
  ·obtain ⟨g1,g2⟩:=hz hft
   rw [decide_eq_true g1,cond_true,hok]
   exact fin _ _ e2.symm g2.symm
  ·obtain ⟨g1,g2⟩:=hx ht hft
   rw [decide_eq_false g2,cond_false]
   show call (zV (vT rto)) _=_
   rw [zaM _ (by omega),zd,g1,zim ht]
   simp only [flag,hft,decide_true,Bool.not_true,Bool.or_self,cond_false]
   simp only [decide_true] at hok
   rw [hok]
   exact fin _ _ e2.symm rfl
 ·obtain ⟨e1,e2⟩:=hx hf hff
  rw [decide_eq_false e2,cond_false]
  show call (zV (vT rf)) _=_
  rw [zaM _ (by omega),zd,e1,zim hf]
  simp only [flag,hff,decide_true,Bool.not_true,Bool.or_self,cond_false]
  simp only [decide_true] at hok
  show idx _ ((4:Nat):Int) _=_
  rw [za5 (by simp)]
  show (bif decide (vT rto=([45]:Str)) then _ else _)=_
  cases hft:zd4 rto
  ·obtain ⟨g1,g2⟩:=hz hft
   rw [decide_eq_true g1,cond_true,hok]
   exact fin _ _ rfl g2.symm
  ·obtain ⟨g1,g2⟩:=hx ht hft
   rw [decide_eq_false g2,cond_false]
   show call (zV (vT rto)) _=_
   rw [zaM _ (by omega),zd,g1,zim ht]
   simp only [flag,hft,decide_true,Bool.not_true,Bool.or_self,cond_false]
   rw [hok]
   exact fin _ _ rfl rfl
def zft (p X:Str):Str:=((X++[32])++zaC (p++X))++[10]
def zdh (p:Str):List Str→List Str
 | []=>[]
 | X::Xs=>zft p X::zdh (zaC (p++X)) Xs
theorem zgX (p X:Str):zft p X=(X++32::zaC (p++X))++[10]:=by unfold zft; simp
theorem zhp:∀ (Xs:List Str) (p:Str),(zdh p Xs).length=Xs.length
 | [],_=>rfl
 | X::Xs,p=>by simp [zdh,zhp Xs]
theorem zkF:∀ (Xs:List Str) (p:Str),p.length≤16→(ze0 p Xs).length≤16
 | [],_,h=>h
 | X::Xs,p,_=>zkF Xs _ (by rw [zar]; exact Nat.le_refl _)
def addR (r:api_Record) (p:Str) (rs:List api_Record) (ls:List Str) (last:Int) (m:Mh):Int × Str × List api_Record × List Str × Int × Mh :=
 bif decide (zdx last m r=0) then (0,zaC (p++rT r),rs++[r],ls++[zft p (rT r)],r.Time,upd r m) else (zdx last m r,p,rs,ls,last,m)
theorem zfM {last:Int} {m:Mh} {r:api_Record} (h:zdx last m r=0):zhv r=0∧¬ r.Time < last∧badK r (zbD m r.Pack)=false:=by
 unfold zdx at h
 obtain ⟨h1,h2⟩:=(zcb _ _).1 h
 by_cases ht:r.Time < last
 ·rw [decide_eq_true ht] at h2; cases h2
 ·rw [decide_eq_false ht] at h2
  exact ⟨h1,ht,zhd (by decide) h2⟩
theorem Add_eq (r:api_Record) (p:Str) (rs:List api_Record) (ls:List Str) (last:Int) (m:Mh) (hr:Pr r) (hp:p.length≤16) (hrs:rs.length < 5000) (hls:ls.length≤5000) (hm:m.length≤1000000) :
  zb6 r p rs ls last m=some (addR r p rs ls last m):=by
 unfold zb6 addR
 rw [zee r hr,zd]
 by_cases he:zhv r=0
 ·have hok:=zhI he
  have hl:=hok.len
  rw [he,fault_eq,show (!decide ((0:Int)=0))=false from rfl,cond_false,zd]
  have es:zdx last m r=bif decide (r.Time < last) then 7 else wh (badK r (zbD m r.Pack)) 12:=by unfold zdx; rw [he]; rfl
  rw [es]
  by_cases ht:r.Time < last
  ·rw [decide_eq_true ht]; rfl
  ·rw [decide_eq_false ht,cond_false,decide_eq_false (show ¬ (5000:Int)≤(rs.length:Int) by omega)]
   cases hb:badK r (zbD m r.Pack)
   ·rw [show wh false 12=0 from rfl]
    simp only [show decide ((0:Int)=7)=false from rfl,decide_true,Bool.not_true,cond_false,cond_true]
    have hlen:(p++rT r).length≤274877906944:=by rw [List.length_append]; omega
    rw [zkN hok,zd,zg hlen,zeV,zd]
    have hs:=zar (p++rT r)
    iterate 5 rw [zg (by simp only [List.length_append,List.length_cons,List.length_nil]; omega)]
    rw [add_eq r last m hm,zd]; rfl
   ·rfl
 ·have hne:zdx last m r ≠ 0:=fun e=>he (zfM e).1
  have es:zdx last m r=zhv r:=by unfold zdx; rw [zgO he]
  rw [es,decide_eq_false he]; rfl
theorem zj3 {last:Int} {m:Mh} {r:api_Record} {l:List api_Record} (h:zer last m (r::l)=0):zdx last m r=0∧zer r.Time (upd r m) l=0:=(zcb _ _).1 h
theorem zj2:∀ (l:List api_Record) (last:Int) (m:Mh) (r:api_Record),zer last m (l++[r])=or2 (zer last m l) (zdx (bif decide (l=[]) then last else zdS l) (zfU m l) r)
 | [],last,m,r=>by
  show or2 (zdx last m r) 0=or2 0 (zdx last m r)
  rw [or2_z,or2_0]
 | x::l,last,m,r=>by
  show or2 (zdx last m x) (zer x.Time (upd x m) (l++[r]))=or2 (or2 (zdx last m x) (zer x.Time (upd x m) l)) _
  rw [zj2 l x.Time (upd x m) r,zdO]
  have:(bif decide (l=[]) then x.Time else zdS l)=(bif decide (x::l=[]) then last else zdS (x::l)):=by
   rw [decide_eq_false (show ¬ x::l=[] by simp),cond_false]
   cases l with
   | nil=>rfl
   | cons y l=>rw [decide_eq_false (by simp),cond_false]; unfold zdS; simp
  rw [this]; rfl
theorem recsE_snoc0 (l:List api_Record) (r:api_Record):zer 0 [] (l++[r])=or2 (zer 0 [] l) (zdx (zdS l) (zfU [] l) r):=by
 rw [zj2]
 cases l with
 | nil=>rfl
 | cons x l=>rw [decide_eq_false (by simp)]; rfl
theorem zkf:∀ (l:List api_Record) (m:Mh) (r:api_Record),zfU m (l++[r])=upd r (zfU m l)
 | [],_,_=>rfl
 | x::l,m,r=>zkf l _ r
theorem sumL_snoc (l:List Str) (p X:Str):ze0 p (l++[X])=zaC (ze0 p l++X):=by rw [sumL_app]; rfl
section
variable {Z:Type}
abbrev OS:=Str × Mh × Int × Str × List api_Record × List Str
theorem open_loop {f:OS→(OS→Option Z)→(OS→Option Z)→Option Z} {K:OS→Option Z} (t:Str)
  (hstep:∀ (r:api_Record) (rest:Str) (m:Mh) (last:Int) (p:Str) (rs:List api_Record) (ls:List Str) (nx:OS→Option Z),Pr r→zdx last m r=0→p.length≤16→rs.length < 5000→ls.length≤5000→m.length≤1000000→(rest.length≤4194304) →
   f ((rT r++32::zaC (p++rT r))++10::rest,m,last,p,rs,ls) nx K=nx (rest,upd r m,r.Time,zaC (p++rT r),rs++[r],ls++[zft p (rT r)]))
  (hstop:∀ (m:Mh) (last:Int) (p:Str) (rs:List api_Record) (ls:List Str) (nx:OS→Option Z),Bad p t→p.length≤16→f (t,m,last,p,rs,ls) nx K=K (t,m,last,p,rs,ls)) :
  ∀ (l:List api_Record) (N:Nat) (m:Mh) (last:Int) (p:Str) (rs:List api_Record) (ls:List Str),l.length < N→(∀ r ∈ l,Pr r)→zer last m l=0→p.length≤16→rs.length+l.length≤5000→ls.length=rs.length→m.length+l.length≤1000000→Bad (ze0 p (l.map rT)) t→(zbG p (l.map rT)++t).length≤4194304 →
   loopN N f (zbG p (l.map rT)++t,m,last,p,rs,ls) K=K (t,zfU m l,bif decide (l=[]) then last else zdS l,ze0 p (l.map rT),rs++l,ls++zdh p (l.map rT)):=by
 intro l
 induction l with
 | nil =>
  intro N m last p rs ls hN _ _ hp _ _ _ hb _
  obtain ⟨n,rfl⟩:∃ n,N=n+1:=⟨N - 1,by simp at hN; omega⟩
  unfold loopN
  rw [show zbG p (([]:List api_Record).map rT)++t=t from rfl,hstop m last p rs ls _ hb hp]
  simp [zfU,ze0,zdh]
 | cons r l ih =>
  intro N m last p rs ls hN hpr hre hp hrs hls hm hb hlen
  obtain ⟨n,rfl⟩:∃ n,N=n+1:=⟨N - 1,by simp at hN; omega⟩
  obtain ⟨h1,h2⟩:=zj3 hre
  simp only [List.length_cons] at hN hrs hm
  have e:zbG p ((r::l).map rT)++t=(rT r++32::zaC (p++rT r))++10::(zbG (zaC (p++rT r)) (l.map rT)++t):=by
   rw [List.map_cons,zaP]; simp
  rw [e] at hlen ⊢
  have hlen2:(zbG (zaC (p++rT r)) (l.map rT)++t).length≤4194304:=by
   rw [List.length_append,List.length_cons] at hlen; omega
  unfold loopN
  rw [hstep r _ m last p rs ls _ (hpr r (by simp)) h1 hp (by omega) (by omega) (by omega) hlen2]
  rw [ih n (upd r m) r.Time (zaC (p++rT r)) (rs++[r]) (ls++[zft p (rT r)]) (by omega) (fun x hx=>hpr x (by simp [hx])) h2 (by rw [zar]; exact Nat.le_refl _) (by simp; omega) (by simp; omega) (by have:=upd_le r m; omega) hb hlen2]
  have:(bif decide (l=[]) then r.Time else zdS l)=(bif decide (r::l=[]) then last else zdS (r::l)):=by
   rw [decide_eq_false (show ¬ r::l=[] by simp),cond_false]
   cases l with
   | nil=>rfl
   | cons y l=>rw [decide_eq_false (by simp),cond_false]; unfold zdS; simp
  rw [this]
  simp [zfU,ze0,zdh]
end
theorem Open_eq (l:List api_Record) (t:Str) (hpr:∀ r ∈ l,Pr r) (h:zer 0 [] l=0) (hl:l.length≤5000) (hb:Bad (ze0 [] (l.map rT)) t) (hlen:(zbG [] (l.map rT)++t).length≤4194304) :
  zfG (zbG [] (l.map rT)++t)=some ((l.length:Int),0,zfU [] l,zdS l,ze0 [] (l.map rT),l,zdh [] (l.map rT)):=by
 unfold zfG
 obtain ⟨N,hN⟩:∃ N,zc4=N:=⟨_,rfl⟩
 have hN2:1099511627776≤N:=hN ▸ zbQ
 rw [hN]
 clear hN
 rw [zfV (decide_eq_false (by omega)),show zk3=some ([],0,[]) from rfl,zd,zaY]
 refine (open_loop t (fun r rest m last p rs ls nx hr hs hp hrs hls hm hrest=>?_) (fun m last p rs ls nx hbad hp=>?_) l N [] 0 [] [] [] (by omega) hpr h (by decide) (by simpa using hl) rfl (by simp; omega) hb hlen).trans ?_
 ·obtain ⟨he,ht,hk⟩:=zfM hs
  have hok:=zhI he
  have hrl:=hok.len
  have hsum:=zar (p++rT r)
  have hnl:=zi6 (p:=p) hok.ln
  have hw:IntKind.i64.wrap (((rT r).length:Int)+1)=(((rT r).length+1:Nat):Int):=zd2 _ (by omega)
  have htk:List.take (rT r).length (rT r++32::zaC (p++rT r))=rT r:=by simp
  have hdr:List.drop ((rT r).length+1) (rT r++32::zaC (p++rT r))=zaC (p++rT r):=by
   rw [List.drop_append,List.drop_of_length_le (by omega),show (rT r).length+1 - (rT r).length=1 by omega]; rfl
  dsimp only
  rw [cut_eq _ 10 (by simp only [List.length_append,List.length_cons]; omega),zfu hnl,zd]
  dsimp only
  rw [zdA (sum_sp _) (by simp only [List.length_append,List.length_cons]; omega),zd,Bool.not_true,Bool.false_or,decide_eq_false (by omega),cond_false,hw,zg (by simp only [List.length_append,List.length_cons]; omega)]
  simp only [Int.toNat_natCast,htk,hdr]
  rw [zgc _ (by omega),zd,pR_text he]
  simp only [decide_true,Bool.not_true,Bool.not_false]
  rw [zg (fun _=>by simp only [List.length_append,List.length_cons]; omega),zg (fun _=>by simp only [List.length_append,List.length_cons]; omega),zg (fun _=>by simp only [List.length_append]; omega),zeV,zag]
  simp only [cond_true,decide_true,Bool.not_true,Bool.or_self,Bool.not_false]
  rw [Add_eq r p rs ls last m hr hp hrs hls hm,zag]
  unfold addR
  rw [hs]
  rfl
 ·have htl:t.length≤4194304:=by rw [List.length_append] at hlen; omega
  rcases hbad with h10 | ⟨line,rest,rfl,hnl,hb2⟩
  ·dsimp only
   rw [cut_eq _ 10 (by omega),zdD h10,zd]
   have hx:∃ n,zC t 32=some n:=by
    by_cases h32:(32:UInt8) ∈ t
    ·obtain ⟨B,W,rfl,hW⟩:=zfO h32
     exact ⟨_,zdA hW (by omega)⟩
    ·exact ⟨_,zfH h32 (by omega)⟩
   obtain ⟨n,hn⟩:=hx
   dsimp only
   rw [hn,zd,Bool.not_false,Bool.true_or,cond_true]
  ·simp only [List.length_append,List.length_cons] at htl
   dsimp only
   rw [cut_eq _ 10 (by simp only [List.length_append,List.length_cons]; omega),zfu hnl,zd]
   dsimp only
   rcases hb2 with h32 | ⟨B,W,rfl,hW,hbw⟩
   ·rw [zfH h32 (by omega),zd,show decide ((-1:Int) < 0)=true from rfl,Bool.or_true,cond_true]
   ·have hBl:B.length+W.length+1≤4194304:=by
     simp only [List.length_append,List.length_cons] at htl; omega
    have hw:IntKind.i64.wrap ((B.length:Int)+1)=((B.length+1:Nat):Int):=zd2 _ (by omega)
    have htk:List.take B.length (B++32::W)=B:=by simp
    have hdr:List.drop (B.length+1) (B++32::W)=W:=by
     rw [List.drop_append,List.drop_of_length_le (by omega),show B.length+1 - B.length=1 by omega]; rfl
    have hlx:(B++32::W).length=B.length+W.length+1:=by simp; omega
    rw [zdA hW (by omega),zd,Bool.not_true,Bool.false_or,decide_eq_false (by omega),cond_false,hw,zg (by omega)]
    simp only [Int.toNat_natCast,htk,hdr]
    rw [zgc B (by omega),zd]
    by_cases h0:(pR B).2=0
    ·have hne:W ≠ zaC (p++B):=by
      rcases hbw with h | h
      ·exact h
      ·exact absurd (pR_back h0).1 h
     rw [h0]
     simp only [decide_true,Bool.not_true,Bool.not_false]
     rw [zg (fun _=>by omega),zg (fun _=>by omega),zg (fun _=>by simp only [List.length_append]; omega),zeV,zag]
     simp only [cond_true]
     rw [decide_eq_false hne]
     rfl
    ·rw [decide_eq_false h0]
     simp only [Bool.not_true,Bool.not_false]
     rw [zg (fun h=>by cases h),zg (fun h=>by cases h),zg (fun h=>by cases h),zgv]
     rfl
 ·rw [show (bif decide (l=[]) then (0:Int) else zdS l)=zdS l by cases l <;> rfl]
  rfl
theorem logT_len:∀ (Xs:List Str) (p:Str),(∀ X ∈ Xs,X.length≤5000)→(zbG p Xs).length≤5018 * Xs.length
 | [],_,_=>Nat.zero_le _
 | X::Xs,p,h=>by
  have:=logT_len Xs (zaC (p++X)) fun Y hY=>h Y (by simp [hY])
  have hx:=h X (by simp)
  rw [zaP,List.length_append,zfK,List.length_cons,List.length_cons]; omega
structure Log (D:List api_Record):Prop where
 pr:∀ r ∈ D,Pr r
 re:zer 0 [] D=0
theorem Log.recs {D:List api_Record} (h:Log D):∀ r ∈ D,zhv r=0:=by
 have key:∀ (l:List api_Record) (last:Int) (m:Mh),zer last m l=0→∀ r ∈ l,zhv r=0:=by
  intro l
  induction l with
  | nil=>intro _ _ _ r hr; cases hr
  | cons x l ih =>
   intro last m hre r hr
   obtain ⟨h1,h2⟩:=zj3 hre
   rcases List.mem_cons.1 hr with rfl | hr
   ·exact (zfM h1).1
   ·exact ih _ _ h2 r hr
 exact key D 0 [] h.re
theorem Log.ln {D:List api_Record} (h:Log D):∀ X ∈ D.map rT,Ln X:=fun X hX=>by
 obtain ⟨r,hr,rfl⟩:=List.mem_map.1 hX
 exact (zhI (h.recs r hr)).ln
theorem Log.tlen {D:List api_Record} (h:Log D):(zbG [] (D.map rT)).length≤5018 * D.length:=by
 have:=logT_len (D.map rT) [] fun X hX=>by
  obtain ⟨r,hr,rfl⟩:=List.mem_map.1 hX
  exact (zhI (h.recs r hr)).len
 rwa [List.length_map] at this
theorem Log.take {D:List api_Record} (h:Log D) (k:Nat):Log (D.take k):=⟨fun r hr=>h.pr r (List.mem_of_mem_take hr),zj1 D 0 [] k h.re⟩
theorem Log.nil:Log []:=⟨fun r hr=>(by cases hr),rfl⟩
theorem logText_loop {Z:Type} {f:Nat→api_Record→Str × Str→(Str × Str→Option Z)→(Str × Str→Option Z)→Option Z} {K:Str × Str→Option Z}
  (hf:∀ i r p o nx,Rok r→p.length≤16→o.length≤1000000000→f i r (p,o) nx K=nx (zaC (p++rT r),o++zft p (rT r))) :
  ∀ (l:List api_Record) (i:Nat) (p o:Str),(∀ r ∈ l,Rok r)→p.length≤16→o.length+5018 * l.length≤1000000000→forL l i f (p,o) K=K (ze0 p (l.map rT),o++zbG p (l.map rT)):=by
 intro l
 induction l with
 | nil=>intro i p o _ _ _; unfold forL; simp [ze0,zbG]
 | cons r l ih =>
  intro i p o hr hp ho
  simp only [List.length_cons] at ho
  have hl:=(hr r (by simp)).len
  have hs:=zar (p++rT r)
  unfold forL
  rw [hf i r p o _ (hr r (by simp)) hp (by omega),ih (i+1) _ _ (fun x hx=>hr x (by simp [hx])) (by omega) (by
   rw [List.length_append,zgX,List.length_append,zfK,List.length_singleton]; omega)]
  rw [List.map_cons,zaP,zgX]
  simp [ze0]
theorem zhU (l:List api_Record) (h:∀ r ∈ l,Rok r) (hl:l.length≤5000):zeG l=some (zbG [] (l.map rT),ze0 [] (l.map rT)):=by
 unfold zeG
 rw [zaY]
 refine (logText_loop (fun i r p o nx hr hp ho=>?_) l 0 [] [] h (by decide) (by simp; omega)).trans ?_
 ·have hrl:=hr.len
  have hs:=zar (p++rT r)
  dsimp only
  rw [zjx hr,zd,zg (by rw [List.length_append]; omega),zhy,zd]
  iterate 3 rw [zg (by simp only [List.length_append,List.length_cons,List.length_nil]; omega)]
  rw [zh4 _ _ (by simp only [List.length_append,List.length_cons,List.length_nil]; omega),zd]
  rfl
 ·dsimp only
  rw [List.nil_append]; rfl
theorem Log.rok {D:List api_Record} (h:Log D):∀ r ∈ D,Rok r:=fun r hr=>zhI (h.recs r hr)
theorem lastT_at (D:List api_Record) (h:0 < D.length) (hl:D.length≤1000000) (d:api_Record):(D.getD (IntKind.i64.wrap ((D.length:Int) - 1)).toNat d).Time=zdS D:=by
 rcases List.eq_nil_or_concat D with rfl | ⟨q,x,rfl⟩
 ·simp at h
 ·rw [List.length_concat,zah (by omega) (by rw [List.length_concat] at hl; omega),show (((q.length+1:Nat):Int) - 1).toNat=q.length by omega,List.concat_eq_append,List.getD_eq_getElem?_getD,List.getElem?_append_right (Nat.le_refl _)]
  unfold zdS
  simp
theorem zji (l:List api_Record) (hp:∀ r ∈ l,Pr r):Ok (zd0 l false) fun z=>Log z∧z.length≤60:=by
 unfold zd0
 rw [cond_false]
 refine Ok.chk (by omega) ?_
 have hlen:(List.take (min (l.length:Int) 60).toNat l).length≤60:=by simp only [List.length_take]; omega
 refine Ok.call (P:=fun z=>z=List.take (min (l.length:Int) 60).toNat l) ⟨_,clone_eq _ (by omega),rfl⟩ ?_
 rintro _ rfl
 refine Ok.call (stable_ok _ (by omega)) fun c hc=>?_
 have hcl:=hc.length_eq
 have hcp:∀ r ∈ c,Pr r:=fun r hr=>hp r (List.mem_of_mem_take (hc.mem_iff.1 hr))
 refine Ok.jp (P:=fun o=>Log o∧o.length≤60) (fun o ho=>Ok.some ho) (fun k hk=>?_)
 refine Ok.forC c.length (fun i o=>o.length≤i∧Log o) (fun i o nx hi ⟨ho,hop⟩ hnx=>?_) (fun o ho=>hk o ⟨ho.2,by have:=ho.1; omega⟩) c.length 0 [] (by omega) ⟨by simp,Log.nil⟩
 have hx:c.getD i (api_Record.mk 0 0 [] (api_Version.mk 0 0 0 []) (api_Version.mk 0 0 0 []) 0 [])=c[i]:=getD_at hi _
 rw [hx]
 have hxp:=hcp _ (List.getElem_mem hi)
 have happ:∀ r ∈ o++[c[i]],Pr r:=fun r hr=>by
  rcases List.mem_append.1 hr with h | h
  ·exact hop.pr r h
  ·rw [List.mem_singleton.1 h]; exact hxp
 refine Ok.call (P:=fun e=>e=zhv c[i]) ⟨_,zcg _ hxp,rfl⟩ fun e he=>?_
 refine Ok.callG (P:=fun z=>z=o) (fun _=>⟨_,clone_eq _ (by omega),rfl⟩) fun z hz=>?_
 refine Ok.chk (fun hg=>by rw [hz hg]; simp only [List.length_append,List.length_cons,List.length_nil]; omega) ?_
 refine Ok.callG (P:=fun e2=>e2=rowE (z++[c[i]])) (fun hg=>⟨_,zhA _ (by rw [hz hg]; exact happ),rfl⟩) fun e2 he2=>?_
 refine Ok.bif (fun hb=>?_) (fun _=>hnx o ⟨by omega,hop⟩)
 refine Ok.chk (by simp only [List.length_append,List.length_cons,List.length_nil]; omega) ?_
 rw [Bool.and_eq_true] at hb
 have h0:rowE (o++[c[i]])=0:=by
  have:=he2 hb.1
  rw [hz hb.1] at this
  rw [← this]; exact of_decide_eq_true hb.2
 exact hnx _ ⟨by simp only [List.length_append,List.length_cons,List.length_nil]; omega,happ,rowE_recs h0⟩
def zhr (p:Str):List Str→List Str
 | []=>[]
 | X::Xs=>(X++32::zaC (p++X))::zhr (zaC (p++X)) Xs
theorem heads_len:∀ (Xs:List Str) (p:Str),(zhr p Xs).length=Xs.length
 | [],_=>rfl
 | X::Xs,p=>by simp [zhr,heads_len Xs]
theorem split_log:∀ (Xs:List Str) (p t:Str),(∀ X ∈ Xs,Ln X)→zD 10 (zbG p Xs++t)=zhr p Xs++zD 10 t
 | [],_,_,_=>rfl
 | X::Xs,p,t,h=>by
  have e:zbG p (X::Xs)++t=(X++32::zaC (p++X))++10::(zbG (zaC (p++X)) Xs++t):=by rw [zaP]; simp
  rw [e,zcQ (zi6 (h X (by simp))),split_log Xs _ t fun Y hY=>h Y (by simp [hY])]; rfl
def BadL (p x:Str):Prop:=(32:UInt8) ∉ x ∨ ∃ B W,x=B++32::W∧(32:UInt8) ∉ W∧(W ≠ zaC (p++B) ∨ ¬ zhV B)
theorem cut_lines (Xs:List Str) (p t:Str) (h:∀ X ∈ Xs,Ln X) (q:Str) (hb:Bad q t) (hl:(zbG p Xs++t).length≤17179869184):∃ tl:List Str,∃ torn:Int,zdG (zbG p Xs++t)=some (zhr p Xs++tl,torn)∧(torn=-1 ∨ ∃ n:Nat,torn=n∧Xs.length≤n)∧(∀ x ∈ tl,x.length≤t.length)∧(tl=[] ∨ ∃ x tl',tl=x::tl'∧(torn=Xs.length ∨ BadL q x)):=by
 have hlen:t.length≤17179869184:=by rw [List.length_append] at hl; omega
 have hsl:=zfZ 10 t
 have hcl:=List.count_le_length (a:=(10:UInt8)) (l:=t)
 have hhl:=heads_len Xs p
 have hxl:Xs.length≤(zbG p Xs).length:=by
  have:∀ (Xs:List Str) (p:Str),Xs.length≤(zbG p Xs).length:=by
   intro Xs
   induction Xs with
   | nil=>intro p; exact Nat.zero_le _
   | cons X Xs ih=>intro p; have:=ih (zaC (p++X)); rw [zaP,List.length_append,List.length_cons,List.length_cons]; omega
  exact this Xs p
 rw [List.length_append] at hl
 obtain ⟨ini,last,hs⟩:∃ ini last,zD 10 t=ini++[last]:=by
  rcases List.eq_nil_or_concat (zD 10 t) with h | ⟨a,b,h⟩
  ·exact absurd h (zhh 10 t)
  ·exact ⟨a,b,by rw [h,List.concat_eq_append]⟩
 have hil:ini.length≤t.length:=by
  have:=congrArg List.length hs
  rw [hsl,List.length_append,List.length_singleton] at this; omega
 have hw:IntKind.i64.wrap (((zhr p Xs++(ini++[last])).length:Int) - 1)=((Xs.length+ini.length:Nat):Int):=by
  rw [List.length_append,List.length_append,List.length_singleton,hhl,zah (by omega) (by omega)]; omega
 have hidx:(zhr p Xs++(ini++[last]))[Xs.length+ini.length]'(by simp [hhl])=last:=by
  rw [List.getElem_append_right (by omega),List.getElem_append_right (by omega)]; simp
 have hcut:zdG (zbG p Xs++t)=bif decide (last=[]) then some (zhr p Xs++ini,-1) else some (zhr p Xs++(ini++[last]),((Xs.length+ini.length:Nat):Int)):=by
  unfold zdG
  rw [zdm _ 10 (by rw [List.length_append]; omega),zd,split_log Xs p t h,hs,hw,za5 (by simp [hhl]),hidx,zg (by
   rw [List.length_append,List.length_append,List.length_singleton,hhl]; omega),Int.toNat_natCast]
  have:List.take (Xs.length+ini.length) (zhr p Xs++(ini++[last]))=zhr p Xs++ini:=by
   rw [← List.append_assoc,List.take_append_of_le_length (by simp [hhl]),List.take_of_length_le (by simp [hhl])]
  rw [this]
 have hmem:∀ x ∈ ini++[last],x.length≤t.length:=fun x hx=>zcx (by rw [hs]; exact hx)
 have hfirst:ini=[] ∨ ∃ x ini',ini=x::ini'∧BadL q x:=by
  rcases hb with h10 | ⟨line,rest,rfl,hnl,hbl⟩
  ·rw [zco h10] at hs
   cases ini with
   | nil=>exact .inl rfl
   | cons y ini=>simp at hs
  ·rw [zcQ hnl] at hs
   cases ini with
   | nil=>exact .inl rfl
   | cons y ini =>
    rw [List.cons_append] at hs
    injection hs with e _
    exact .inr ⟨y,ini,rfl,by rw [← e]; exact hbl⟩
 rw [hcut]
 cases hd:decide (last=[])
 ·refine ⟨ini++[last],_,rfl,.inr ⟨_,rfl,by omega⟩,hmem,.inr ?_⟩
  rcases hfirst with rfl | ⟨x,ini',rfl,hx⟩
  ·exact ⟨last,[],rfl,.inl (by simp)⟩
  ·exact ⟨x,ini'++[last],rfl,.inr hx⟩
 ·refine ⟨ini,_,rfl,.inl rfl,fun x hx=>hmem x (by simp [hx]),?_⟩
  rcases hfirst with rfl | ⟨x,ini',rfl,hx⟩
  ·exact .inl rfl
  ·exact .inr ⟨x,ini',rfl,.inr hx⟩
abbrev RS:=Str × List (Str × api_Had) × List api_Record
theorem openR_loop {f:Nat→Str→RS→(RS→Option (List api_Record))→(RS→Option (List api_Record))→Option (List api_Record)} {K:RS→Option (List api_Record)} (tl:List Str) (torn:Int) (L:List api_Record)
  (hK:∀ p m out,K (p,m,out)=some out)
  (hstep:∀ (r:api_Record) (pre:List api_Record) nx,Log (pre++[r])→pre.length < L.length→f pre.length (rT r++32::zaC (ze0 [] (pre.map rT)++rT r)) (ze0 [] (pre.map rT),toH (zfU [] pre),pre) nx K=nx (ze0 [] ((pre++[r]).map rT),toH (zfU [] (pre++[r])),pre++[r]))
  (hstop:∀ x tl' nx,tl=x::tl'→f L.length x (ze0 [] (L.map rT),toH (zfU [] L),L) nx K=some L) :
  ∀ (l pre:List api_Record),Log (pre++l)→pre++l=L→forL (zhr (ze0 [] (pre.map rT)) (l.map rT)++tl) pre.length f (ze0 [] (pre.map rT),toH (zfU [] pre),pre) K=some (pre++l):=by
 intro l
 induction l with
 | nil =>
  intro pre hL hlen
  rw [List.append_nil] at hL hlen ⊢
  show forL tl pre.length f _ K=_
  cases tl with
  | nil=>unfold forL; exact hK _ _ _
  | cons x tl' =>
   unfold forL
   rw [hlen]
   exact hstop x tl' _ rfl
 | cons r l ih =>
  intro pre hL hlen
  have e:pre++r::l=(pre++[r])++l:=by simp
  rw [e] at hL hlen ⊢
  have hL1:Log (pre++[r]):=by
   have:=hL.take (pre++[r]).length
   rwa [List.take_append_of_le_length (Nat.le_refl _),List.take_length] at this
  show forL ((rT r++32::zaC (ze0 [] (pre.map rT)++rT r))::(zhr (zaC (ze0 [] (pre.map rT)++rT r)) (l.map rT)++tl)) pre.length f _ K=_
  unfold forL
  rw [hstep r pre _ hL1 (by rw [← hlen]; simp)]
  have:=ih (pre++[r]) hL hlen
  rw [show (pre++[r]).length=pre.length+1 by simp] at this
  rw [← this,List.map_append,List.map_cons,List.map_nil,sumL_snoc]
theorem zkz (l:List api_Record) (t:Str) (hL:Log l) (hl:l.length < 5000) (hb:Bad (ze0 [] (l.map rT)) t) (hlen:(zbG [] (l.map rT)++t).length≤4194304):zeF (zbG [] (l.map rT)++t)=some l:=by
 obtain ⟨tl,torn,hc,htorn,hmem,htl⟩:=cut_lines (l.map rT) [] t hL.ln _ hb (by omega)
 rw [List.length_map] at htorn htl
 have htlen:t.length≤4194304:=by rw [List.length_append] at hlen; omega
 unfold zeF
 rw [hc,zd,zaY]
 refine openR_loop tl torn l (fun _ _ _=>rfl) (fun r pre nx hL1 hpl=>?_) (fun x tl' nx hx=>?_) l [] hL rfl
 ·have hLp:Log pre:=by
   have:=hL1.take pre.length
   rwa [List.take_append_of_le_length (Nat.le_refl _),List.take_length] at this
  have hes:zdx (zdS pre) (zfU [] pre) r=0:=by
   have:=hL1.re
   rw [recsE_snoc0] at this
   exact ((zcb _ _).1 this).2
  obtain ⟨he,ht,hk⟩:=zfM hes
  have hok:=zhI he
  have hrl:=hok.len
  have hsum:=zar (ze0 [] (pre.map rT)++rT r)
  have hp16:=zkF (pre.map rT) [] (by decide)
  have hml:=mapOf_le pre []
  simp only [List.length_nil] at hml
  have hw:IntKind.i64.wrap (((rT r).length:Int)+1)=(((rT r).length+1:Nat):Int):=zd2 _ (by omega)
  have htk:List.take (rT r).length (rT r++32::zaC (ze0 [] (pre.map rT)++rT r))=rT r:=by simp
  have hdr:List.drop ((rT r).length+1) (rT r++32::zaC (ze0 [] (pre.map rT)++rT r))=zaC (ze0 [] (pre.map rT)++rT r):=by
   rw [List.drop_append,List.drop_of_length_le (by omega),show (rT r).length+1 - (rT r).length=1 by omega]; rfl
  have hll:=zfK (ze0 [] (pre.map rT)) (rT r)
  dsimp only
  rw [lastI_eq,zdA (sum_sp _) (by omega),zd,decide_eq_false (show ¬ ((pre.length:Int)=torn) by rcases htorn with h | ⟨n,h,hn⟩ <;> omega),decide_eq_false (show ¬ (((rT r).length:Int) < 0) by omega),decide_eq_false (show ¬ ((pre.length:Int)=5000) by omega),Bool.or_self,Bool.or_self,cond_false,hw,zg (by omega)]
  simp only [Int.toNat_natCast,htk,hdr]
  rw [zjw he,zd]
  simp only [decide_true,Bool.not_true,Bool.not_false]
  rw [zg (fun _=>by omega),zg (fun _=>by omega),zg (fun _=>by rw [List.length_append]; omega),zhy,zag]
  simp only [cond_true,decide_true,Bool.not_true,Bool.or_self,Bool.not_false,Bool.true_and,Bool.false_or]
  have htime:((decide (0 < (pre.length:Int))) && (decide (r.Time < (pre.getD (IntKind.i64.wrap ((pre.length:Int) - 1)).toNat (api_Record.mk 0 0 [] (api_Version.mk 0 0 0 []) (api_Version.mk 0 0 0 []) 0 [])).Time)))=false:=by
   by_cases h0:0 < pre.length
   ·rw [lastT_at pre h0 (by omega),decide_eq_false ht,Bool.and_false]
   ·rw [decide_eq_false (by omega)]; rfl
  rw [zg (fun hg=>by
   rw [decide_eq_true_eq] at hg
   rw [zah (by omega) (by omega)]; omega),htime,Bool.not_false,callG_true,zkx r _ (by omega),hk]
  simp only [cond_false,zd,Bool.not_true,Bool.or_self]
  rw [zg (by omega),zg (by simp; omega),List.map_append,List.map_cons,List.map_nil,sumL_snoc,zkf]
 ·have hxl:=hmem x (by rw [hx]; simp)
  have hstop:torn=l.length ∨ BadL (ze0 [] (l.map rT)) x:=by
   rcases htl with h | ⟨y,tl2,h,h2⟩
   ·rw [h] at hx; cases hx
   ·rw [h] at hx
    injection hx with e _
    rw [← e]; exact h2
  have hlast:∃ n,zC x 32=some n:=by
   by_cases h32:(32:UInt8) ∈ x
   ·obtain ⟨B,W,rfl,hW⟩:=zfO h32
    exact ⟨_,zdA hW (by omega)⟩
   ·exact ⟨_,zfH h32 (by omega)⟩
  have hp16:=zkF (l.map rT) [] (by decide)
  dsimp only
  rw [lastI_eq]
  by_cases ht:(l.length:Int)=torn
  ·obtain ⟨n,hn⟩:=hlast
   rw [hn,zd,decide_eq_true ht,Bool.true_or,Bool.true_or,cond_true]
  ·rcases hstop with h | h32 | ⟨B,W,rfl,hW,hbw⟩
   ·exact absurd h.symm ht
   ·rw [zfH h32 (by omega),zd,show decide ((-1:Int) < 0)=true from rfl,Bool.or_true,Bool.true_or,cond_true]
   ·have hBl:B.length+W.length+1≤4194304:=by
     simp only [List.length_append,List.length_cons] at hxl; omega
    have hw:IntKind.i64.wrap ((B.length:Int)+1)=((B.length+1:Nat):Int):=zd2 _ (by omega)
    have htk:List.take B.length (B++32::W)=B:=by simp
    have hdr:List.drop (B.length+1) (B++32::W)=W:=by
     rw [List.drop_append,List.drop_of_length_le (by omega),show B.length+1 - B.length=1 by omega]; rfl
    have hlx:(B++32::W).length=B.length+W.length+1:=by simp; omega
    rw [zdA hW (by omega),zd,decide_eq_false ht,decide_eq_false (show ¬ ((B.length:Int) < 0) by omega),decide_eq_false (show ¬ ((l.length:Int)=5000) by omega),Bool.or_self,Bool.or_self,cond_false,hw,zg (by omega)]
    simp only [Int.toNat_natCast,htk,hdr]
    obtain ⟨z,hz,hzq⟩:=zlu B (by omega)
    rw [hz,zd]
    by_cases h0:z.2=0
    ·have hne:W ≠ zaC (ze0 [] (l.map rT)++B):=by
      rcases hbw with h | h
      ·exact h
      ·exact absurd (hzq h0).1 h
     rw [decide_eq_true h0]
     simp only [Bool.not_true,Bool.not_false]
     rw [zg (fun _=>by omega),zg (fun _=>by omega),zg (fun _=>by simp only [List.length_append]; omega),zhy,zag]
     have hd:decide (W=zaC (ze0 [] (l.map rT)++B))=false:=decide_eq_false hne
     simp only [cond_true,hd,Bool.not_false,Bool.or_true,Bool.true_or,Bool.not_true,Bool.false_and,zgv,cond_true]
     rw [zg (fun h=>by cases h)]
    ·rw [decide_eq_false h0]
     simp only [Bool.not_true,Bool.not_false,Bool.true_or,Bool.false_and,zgv,cond_true]
     rw [zg (fun h=>by cases h),zg (fun h=>by cases h),zg (fun h=>by cases h),zg (fun h=>by cases h)]
theorem xor8 (a b:Nat) (ha:a < 256) (hb:b < 256):zaz .xor .u8 (a:Int) (b:Int)=((a ^^^ b:Nat):Int):=by
 have hx:a ^^^ b < 256:=Nat.xor_lt_two_pow (n:=8) ha hb
 show IntKind.u8.wrap (((BitVec.ofInt 8 (a:Int) ^^^ BitVec.ofInt 8 (b:Int)).toNat:Nat):Int)=_
 rw [BitVec.toNat_xor,BitVec.toNat_ofInt,BitVec.toNat_ofInt]
 have e1:((a:Int) % ((2 ^ 8:Nat):Int)).toNat=a:=by omega
 have e2:((b:Int) % ((2 ^ 8:Nat):Int)).toNat=b:=by omega
 rw [e1,e2,wrapU8]
 generalize a ^^^ b=q at hx ⊢
 omega
def chg (c:UInt8) (b:Int):UInt8:=UInt8.ofNat (zaz .xor .u8 (c.toNat:Int) b).toNat
theorem chg_zero (c:UInt8):chg c 0=c:=by
 have:=xor8 c.toNat 0 c.toNat_lt (by decide)
 unfold chg
 rw [show ((0:Int))=((0:Nat):Int) from rfl,this,Nat.xor_zero]; simp
theorem chg_ne (c:UInt8) {b:Int} (h0:0≤b) (h1:b≤255) (hb:b ≠ 0):c ≠ chg c b:=by
 obtain ⟨n,rfl⟩:=Int.eq_ofNat_of_zero_le h0
 have hc:=c.toNat_lt
 have hx:c.toNat ^^^ n < 256:=Nat.xor_lt_two_pow (n:=8) hc (by omega)
 intro e
 unfold chg at e
 rw [xor8 _ _ hc (by omega),Int.toNat_natCast] at e
 have e2:=congrArg UInt8.toNat e
 rw [UInt8.toNat_ofNat',Nat.mod_eq_of_lt hx] at e2
 have e3:=congrArg (c.toNat ^^^ ·) e2
 simp only [← Nat.xor_assoc,Nat.xor_self,Nat.zero_xor] at e3
 omega
theorem strOf_chg (T:Str) (k:Nat) (hk:k < T.length) (by_:Int) (n:Nat):Go.Vc.strOf (List.take n (List.set (zbC T) k (zaz .xor .u8 ((zbC T).getD k 0) by_)))=(T.set k (chg (T.getD k 0) by_)).take n:=by
 have hg:(zbC T).getD k 0=((T.getD k 0).toNat:Int):=by
  unfold zbC
  rw [List.getD_eq_getElem?_getD,List.getElem?_map,List.getElem?_eq_getElem hk,List.getD_eq_getElem?_getD,List.getElem?_eq_getElem hk]; rfl
 have h1:=zeO T
 unfold Go.Vc.strOf at h1 ⊢
 rw [hg,List.map_take,List.map_set,h1]; rfl
theorem tmod_pos (at_:Int) (L:Nat) (h0:0 < L) (hL:L≤1000000000):∃ k:Nat,Int.tmod (IntKind.i64.wrap ((Int.tmod at_ (L:Int))+(L:Int))) (L:Int)=k∧k < L:=by
 have h1:=Int.tmod_lt_of_pos at_ (show (0:Int) < (L:Int) by omega)
 have h2:=Int.lt_tmod_of_pos at_ (show (0:Int) < (L:Int) by omega)
 rw [zah (by omega) (by omega)]
 have h3:=Int.tmod_lt_of_pos (Int.tmod at_ (L:Int)+L) (show (0:Int) < (L:Int) by omega)
 have h4:=Int.tmod_nonneg (L:Int) (show 0≤Int.tmod at_ (L:Int)+L by omega)
 exact ⟨(Int.tmod (Int.tmod at_ (L:Int)+L) (L:Int)).toNat,by omega,by omega⟩
theorem text_left {D:List api_Record} (hD:Log D) (hl:D.length≤100) (k n:Nat) (hk:k < (zbG [] (D.map rT)).length) (by_:Int) (h0:0≤by_) (h1:by_≤255):∃ m,m≤D.length∧∃ t,((zbG [] (D.map rT)).set k (chg ((zbG [] (D.map rT)).getD k 0) by_)).take n=zbG [] ((D.take m).map rT)++t∧Bad (ze0 [] ((D.take m).map rT)) t∧(by_=0→m=(((zbG [] (D.map rT)).set k (chg ((zbG [] (D.map rT)).getD k 0) by_)).take n).count 10)∧(by_ ≠ 0→m=((zbG [] (D.map rT)).take (min k n)).count 10):=by
 by_cases hb:by_=0
 ·subst hb
  have hs:(zbG [] (D.map rT)).set k (chg ((zbG [] (D.map rT)).getD k 0) 0)=zbG [] (D.map rT):=by
   rw [chg_zero,List.getD_eq_getElem?_getD,List.getElem?_eq_getElem hk]
   exact List.set_getElem_self hk
  obtain ⟨m,hm,t,ht,h10,hcnt,_⟩:=cut_tail (D.map rT) [] n hD.ln
  rw [List.length_map] at hm
  rw [hs]
  exact ⟨m,hm,t,by rw [ht,List.map_take],.inl h10,fun _=>hcnt,fun h=>absurd rfl h⟩
 ·obtain ⟨m,hm,t,ht,hbad,hcnt⟩:=chg_tail (D.map rT) [] k n _ hD.ln hk (chg_ne _ h0 h1 hb)
  rw [List.length_map] at hm
  exact ⟨m,hm,t,by rw [ht,List.map_take],by rw [List.map_take]; exact hbad,fun h=>absurd h hb,fun _=>hcnt⟩
theorem rEq_iff (x y:api_Record):rEq x y=true ↔ x=y:=by
 constructor
 ·intro h
  unfold rEq at h
  simp only [Bool.and_eq_true,decide_eq_true_eq] at h
  obtain ⟨h1,h2,h3,h4,h5,h6,h7,h8,h9,h10,h11,h12,h13⟩:=h
  obtain ⟨a1,a2,a3,⟨a4,a5,a6,a7⟩,⟨a8,a9,a10,a11⟩,a12,a13⟩:=x
  obtain ⟨b1,b2,b3,⟨b4,b5,b6,b7⟩,⟨b8,b9,b10,b11⟩,b12,b13⟩:=y
  simp only at h1 h2 h3 h4 h5 h6 h7 h8 h9 h10 h11 h12 h13
  subst h1 h2 h3 h4 h5 h6 h7 h8 h9 h10 h11 h12 h13
  rfl
 ·rintro rfl
  exact rEq_self x
def cpB {α:Type} (q:α→α→Bool):List α→List α→Nat
 | x::a,y::b=>bif q x y then cpB q a b+1 else 0
 | _,_=>0
section
variable {α:Type} {q:α→α→Bool}
theorem cpB_le:∀ (a b:List α),cpB q a b≤a.length∧cpB q a b≤b.length
 | [],_=>⟨Nat.zero_le _,Nat.zero_le _⟩
 | _::_,[]=>⟨Nat.zero_le _,Nat.zero_le _⟩
 | x::a,y::b=>by
  have:=cpB_le a b
  unfold cpB
  cases q x y <;> simp only [cond_true,cond_false,List.length_cons] <;> omega
theorem cpB_lt (d:α):∀ (a b:List α) (i:Nat),i < cpB q a b→q (a.getD i d) (b.getD i d)=true
 | [],_,i,h=>by simp [cpB] at h
 | _::_,[],i,h=>by simp [cpB] at h
 | x::a,y::b,i,h=>by
  unfold cpB at h
  cases hq:q x y
  ·rw [hq] at h; simp at h
  ·rw [hq,cond_true] at h
   cases i with
   | zero=>simpa using hq
   | succ i=>simpa using cpB_lt d a b i (by omega)
theorem zln (d:α):∀ (a b:List α),cpB q a b < a.length→cpB q a b < b.length→q (a.getD (cpB q a b) d) (b.getD (cpB q a b) d)=false
 | [],_,h,_=>by simp at h
 | _::_,[],_,h=>by simp at h
 | x::a,y::b,h1,h2=>by
  unfold cpB at h1 h2 ⊢
  cases hq:q x y
  ·rw [hq] at h1 h2
   simp only [cond_false]
   simpa using hq
  ·rw [hq] at h1 h2
   simp only [cond_true,List.length_cons] at h1 h2 ⊢
   simpa using zln d a b (by omega) (by omega)
end
theorem lineOf_inj {p X Y:Str} (h:zft p X=zft p Y):X=Y:=by
 rw [zgX,zgX] at h
 have hl:=congrArg List.length h
 simp only [List.length_append,List.length_cons,zar,List.length_nil] at hl
 have h1:=congrArg (List.take X.length) h
 rw [List.append_assoc,List.append_assoc,List.take_left,List.take_append_of_le_length (by omega),List.take_of_length_le (by omega)] at h1
 exact h1
theorem rT_inj {r s:api_Record} (hr:zhv r=0) (hs:zhv s=0) (h:rT r=rT s):r=s:=by
 have h1:=pR_text hr
 rw [h,pR_text hs] at h1
 exact (Prod.mk.inj h1).1.symm
theorem cp_lines:∀ (a b:List api_Record) (p:Str),(∀ r ∈ a,zhv r=0)→(∀ r ∈ b,zhv r=0)→cpB (fun x y=>decide (x=y)) (zdh p (a.map rT)) (zdh p (b.map rT))=cpB rEq a b
 | [],_,_,_,_=>by simp [zdh,cpB]
 | _::_,[],_,_,_=>by simp [zdh,cpB]
 | r::a,s::b,p,ha,hb=>by
  simp only [List.map_cons,zdh,cpB]
  have hr:=ha r (by simp); have hs:=hb s (by simp)
  by_cases he:r=s
  ·subst he
   rw [decide_eq_true rfl,rEq_self,cond_true,cond_true,cp_lines a b _ (fun x hx=>ha x (by simp [hx])) (fun x hx=>hb x (by simp [hx]))]
  ·have h1:decide (zft p (rT r)=zft p (rT s))=false:=decide_eq_false fun e=>he (rT_inj hr hs (lineOf_inj e))
   have h2:rEq r s=false:=by
    cases hq:rEq r s
    ·rfl
    ·exact absurd ((rEq_iff r s).1 hq) he
   rw [h1,h2]; rfl
theorem Concat_eq (a b:List api_Record) (ha:a.length≤1000) (hb:b.length≤1000):zH [a,b]=some (a++b):=by
 unfold zH
 simp only [zaY,forL]
 have e1:IntKind.i64.wrap (0+(a.length:Int))=(a.length:Int):=by rw [zah (by omega) (by omega)]; omega
 have e2:IntKind.i64.wrap ((a.length:Int)+(b.length:Int))=((a.length+b.length:Nat):Int):=by rw [zah (by omega) (by omega)]; omega
 rw [e1,e2,zfV (decide_eq_false (by omega)),zfV (decide_eq_false (by omega))]
 unfold zcy
 rw [zg (by omega),zd,List.nil_append,zg (by omega),zg (by simp; omega)]
def partN (c a b:Nat):Int:=bif (decide (c=a)) && (decide (c=b)) then -1 else c
theorem Part_eq {A Y:List api_Record} (hA:Log A) (hY:Log Y) (hAl:A.length≤100) (hYl:Y.length≤100) (t:Str) (hb:Bad (ze0 [] (Y.map rT)) t) (hlen:(zbG [] (Y.map rT)++t).length≤4194304) :
  zeR (zbG [] (A.map rT)) (zbG [] (Y.map rT)++t)=some (partN (cpB rEq A Y) A.length Y.length,0):=by
 have hAt:=hA.tlen
 unfold zeR
 obtain ⟨N,hN⟩:∃ N,zc4=N:=⟨_,rfl⟩
 have hN2:1099511627776≤N:=hN ▸ zbQ
 rw [hN]
 clear hN
 have hoA:=Open_eq A [] hA.pr hA.re (by omega) (.inl (by simp)) (by rw [List.append_nil]; omega)
 rw [List.append_nil] at hoA
 rw [hoA,zd,Open_eq Y t hY.pr hY.re (by omega) hb hlen]
 simp only [decide_true,Bool.not_true,cond_false,zd,zaY]
 have hlA:(zdh [] (A.map rT)).length=A.length:=by rw [zhp,List.length_map]
 have hlY:(zdh [] (Y.map rT)).length=Y.length:=by rw [zhp,List.length_map]
 have hcp:=cp_lines A Y [] hA.recs hY.recs
 rw [← hcp]
 generalize zdh [] (A.map rT)=LA at hlA ⊢
 generalize zdh [] (Y.map rT)=LY at hlY ⊢
 rw [← hlA,← hlY]
 have hle:=cpB_le (q:=fun x y:Str=>decide (x=y)) LA LY
 generalize hc:cpB (fun x y:Str=>decide (x=y)) LA LY=c at hle ⊢
 refine zbM (S:=Int) (fun st=>∃ i:Nat,st=i∧i≤c) (fun st=>c - st.toNat) (fun _=>some (partN c LA.length LY.length,0)) ?_ N 0 ⟨0,rfl,Nat.zero_le _⟩ (by show c - (0:Int).toNat < N; omega)
 rintro _ nx ⟨i,rfl,hi⟩ hnx
 rw [zg (fun h=>by rw [decide_eq_true_eq] at h; omega),zg (fun h=>by rw [decide_eq_true_eq] at h; omega)]
 simp only [Int.toNat_natCast]
 rcases Nat.eq_or_lt_of_le hi with rfl | hlt
 ·have hfin:(bif ((decide ((i:Int)=(LA.length:Int))) && (decide ((i:Int)=(LY.length:Int)))) then some ((-1:Int),(0:Int)) else some ((i:Int),0))=some (partN i LA.length LY.length,0):=by
   unfold partN
   have e1:decide ((i:Int)=(LA.length:Int))=decide (i=LA.length):=decide_eq_decide.2 (by omega)
   have e2:decide ((i:Int)=(LY.length:Int))=decide (i=LY.length):=decide_eq_decide.2 (by omega)
   rw [e1,e2]
   cases decide (i=LA.length) && decide (i=LY.length) <;> rfl
  have hstop:(decide ((i:Int) < (min (LA.length:Int) (LY.length:Int))) && decide (LA.getD i []=LY.getD i []))=false:=by
   by_cases h1:i < LA.length
   ·by_cases h2:i < LY.length
    ·have:=zln (q:=fun x y:Str=>decide (x=y)) [] LA LY (by omega) (by omega)
     rw [hc] at this
     rw [this,Bool.and_false]
    ·rw [decide_eq_false (by omega)]; rfl
   ·rw [decide_eq_false (by omega)]; rfl
  rw [hstop,cond_false]
  exact hfin
 ·have hgo:(decide ((i:Int) < (min (LA.length:Int) (LY.length:Int))) && decide (LA.getD i []=LY.getD i []))=true:=by
   have:=cpB_lt (q:=fun x y:Str=>decide (x=y)) [] LA LY i (by omega)
   rw [decide_eq_true (show (i:Int) < (min (LA.length:Int) (LY.length:Int)) by omega),this]; rfl
  rw [hgo,cond_true,zd2 i (by omega)]
  exact hnx _ ⟨i+1,rfl,by omega⟩ (by simp only [Int.toNat_natCast]; omega)
theorem want_loop {Z:Type} {f:Int × Int→(Int × Int→Option Z)→(Int × Int→Option Z)→Option Z} {K:Int→Option Z} (A Y:List api_Record) (N:Nat) (hN:1000 < N) (hA:A.length≤100) (hY:Y.length≤100)
  (hf:∀ (i:Nat) nx,i≤100→f (-1,(i:Int)) nx (fun s=>K s.1)=bif decide ((i:Int) < max (A.length:Int) (Y.length:Int)) then (bif ((decide ((A.length:Int)≤(i:Int))) || (decide ((Y.length:Int)≤(i:Int)))) || !rEq (A.getD i RZ) (Y.getD i RZ) then K (i:Int) else nx (-1,((i+1:Nat):Int))) else K (-1)) :
  loopN N f (-1,0) (fun s=>K s.1)=K (partN (cpB rEq A Y) A.length Y.length):=by
 have hle:=cpB_le (q:=rEq) A Y
 generalize hc:cpB rEq A Y=c at hle ⊢
 refine zbM (S:=Int × Int) (fun st=>∃ i:Nat,st=(-1,(i:Int))∧i≤c) (fun st=>c - st.2.toNat) (fun _=>K (partN c A.length Y.length)) ?_ N _ ⟨0,rfl,Nat.zero_le _⟩ (by simp only; omega)
 rintro _ nx ⟨i,rfl,hi⟩ hnx
 rw [hf i nx (by omega)]
 rcases Nat.eq_or_lt_of_le hi with rfl | hlt
 ·unfold partN
  by_cases h1:i < max A.length Y.length
  ·have hne:(decide (i=A.length) && decide (i=Y.length))=false:=by
    rw [Bool.and_eq_false_iff,decide_eq_false_iff_not,decide_eq_false_iff_not]; omega
   rw [hne,cond_false,decide_eq_true (by omega),cond_true]
   have hstop:(((decide ((A.length:Int)≤(i:Int))) || (decide ((Y.length:Int)≤(i:Int)))) || !rEq (A.getD i RZ) (Y.getD i RZ))=true:=by
    by_cases ha:i < A.length
    ·by_cases hb:i < Y.length
     ·have:=zln (q:=rEq) RZ A Y (by omega) (by omega)
      rw [hc] at this
      rw [this]; simp
     ·rw [show decide ((Y.length:Int)≤(i:Int))=true from decide_eq_true (by omega)]; simp
    ·rw [show decide ((A.length:Int)≤(i:Int))=true from decide_eq_true (by omega)]; simp
   rw [hstop,cond_true]
  ·rw [decide_eq_false (by omega),cond_false,decide_eq_true (show i=A.length by omega),decide_eq_true (show i=Y.length by omega)]; rfl
 ·have:=cpB_lt (q:=rEq) RZ A Y i (by omega)
  rw [decide_eq_true (by omega),cond_true,this,decide_eq_false (by omega),decide_eq_false (by omega)]
  simp only [Bool.or_self,Bool.not_true,cond_false]
  exact hnx _ ⟨i+1,rfl,by omega⟩ (by simp only [Int.toNat_natCast]; omega)
theorem law_lp (a b:List api_Record) (n_ at_ by_:Int) (ha:∀ r ∈ a,Pr r) (hb:∀ r ∈ b,Pr r) (h0:0≤by_) (h1:by_≤255):zde a b n_ at_ by_=some true:=by
 suffices h:Ok (zde a b n_ at_ by_) fun z=>z=true by
  obtain ⟨z,h,rfl⟩:=h
  exact h
 unfold zde
 obtain ⟨N,hN⟩:∃ N,zc4=N:=⟨_,rfl⟩
 have hN2:1099511627776≤N:=hN ▸ zbQ
 rw [hN]
 clear hN
 rw [landed_eq,zd,Bool.not_true,cond_false]
 refine Ok.call (zji a ha) fun A ⟨hA,hAl⟩=>?_
 refine Ok.call (zji b hb) fun B0 ⟨hB0,hB0l⟩=>?_
 refine Ok.chk (by omega) ?_
 have htk:(List.take (min (max n_ 0) (A.length:Int)).toNat A).length≤60:=by rw [List.length_take]; omega
 rw [Concat_eq _ _ (by omega) (by omega),zd]
 refine Ok.call (zji _ (fun r hr=>by
  rcases List.mem_append.1 hr with h | h
  ·exact hA.pr r (List.mem_of_mem_take h)
  ·exact hB0.pr r h)) fun B ⟨hB,hBl⟩=>?_
 have hAt:=hA.tlen
 have hBt:=hB.tlen
 rw [zhU A hA.rok (by omega),zd,zhU B hB.rok (by omega),zd]
 dsimp only
 refine Ok.jp (P:=fun s=>∃ m,m≤B.length∧∃ t,s=zbG [] ((B.take m).map rT)++t∧Bad (ze0 [] ((B.take m).map rT)) t∧s.length≤4194304) ?_ ?_
 ·rintro s ⟨m,hm,t,hs,hbad,hsl⟩
  have hM:=hB.take m
  have hMl:(B.take m).length=m:=by rw [List.length_take]; omega
  rw [hs] at hsl
  have hoA:=zkz A [] hA (by omega) (.inl (by simp)) (by rw [List.append_nil]; omega)
  rw [List.append_nil] at hoA
  rw [hs,hoA,zd,zkz _ t hM (by omega) hbad hsl,zd,zaY]
  have hP:=Part_eq hA hM (by omega) (by omega) t hbad hsl
  generalize List.take m B=Y at hM hMl hP
  refine (show Ok (loopN N _ (-1,0) (fun s=>(fun want_151=>call (zeR (zbG [] (A.map rT)) (zbG [] (Y.map rT)++t)) fun r_153=>some ((decide (r_153.2=0)) && (decide (r_153.1=want_151)))) s.1)) fun z=>z=true from ?_)
  rw [want_loop (K:=fun want_151=>call (zeR (zbG [] (A.map rT)) (zbG [] (Y.map rT)++t)) fun r_153=>some ((decide (r_153.2=0)) && (decide (r_153.1=want_151)))) A Y N (by omega) (by omega) (by omega) (fun i nx hi=>?_)]
  ·rw [hP,zd]
   exact Ok.some (by simp)
  ·dsimp only
   cases hd:decide ((i:Int) < max (A.length:Int) (Y.length:Int))
   ·rfl
   ·rw [cond_true,cond_true]
    simp only [zk4,Int.toNat_natCast]
    rw [zg (fun h=>by simp only [Bool.not_eq_true',Bool.or_eq_false_iff,decide_eq_false_iff_not] at h; omega),zg (fun h=>by simp only [Bool.not_eq_true',Bool.or_eq_false_iff,decide_eq_false_iff_not] at h; omega),zd2 i (by omega)]
    rfl
 ·intro k hk
  refine Ok.bif (fun hne=>?_) (fun he=>?_)
  ·have hne:zbG [] (B.map rT) ≠ []:=of_decide_eq_false (by simpa using hne)
   have hpos:=List.length_pos_iff.2 hne
   generalize hT:zbG [] (B.map rT)=T at hBt hne hpos
   obtain ⟨kk,hkk,hkl⟩:=tmod_pos at_ T.length hpos (by omega)
   refine Ok.chk (by omega) (Ok.chk (by omega) (Ok.letv ?_))
   rw [hkk]
   refine Ok.chk (by omega) (Ok.chk (by omega) (Ok.letv ?_))
   rw [Int.toNat_natCast]
   have hs:=strOf_chg T kk hkl by_ T.length
   rw [List.take_of_length_le (by rw [List.length_set]; simp [zbC]),List.take_of_length_le (by rw [List.length_set]; exact Nat.le_refl _)] at hs
   obtain ⟨m,hm,t,ht,hbad,_,_⟩:=text_left hB (by omega) kk T.length (by rw [hT]; exact hkl) by_ h0 h1
   rw [hT,List.take_of_length_le (by rw [List.length_set]; exact Nat.le_refl _)] at ht
   rw [hs]
   exact hk _ ⟨m,hm,t,ht,hbad,by rw [List.length_set]; omega⟩
  ·exact hk _ ⟨B.length,Nat.le_refl _,[],by rw [List.take_length,List.append_nil],.inl (by simp),by omega⟩
end Go.Md

