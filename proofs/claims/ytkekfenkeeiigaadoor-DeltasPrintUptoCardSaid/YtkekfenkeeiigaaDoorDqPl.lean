/- Plain lemmas on the models: the law's model answers true. -/
import Derived.Test.YtkekfenkeeiigaaDoorDqSf
set_option linter.unusedSimpArgs false
set_option linter.unusedVariables false
set_option linter.unusedSectionVars false
namespace Go.Md
open Go.Vc
section
variable {Z A S α:Type}
theorem call_some (x:A) (k:A→Option Z):call (some x) k=k x:=rfl
theorem callG_some (g:Bool) (x d:A) (k:A→Option Z):callG g (some x) d k=k (bif g then x else d):=by cases g <;> rfl
theorem callG_true (a:Option A) (d:A) (k:A→Option Z):callG true a d k=call a k:=rfl
theorem callG_false (a:Option A) (d:A) (k:A→Option Z):callG false a d k=k d:=rfl
theorem chk_true {p:Prop} [Decidable p] (h:p) (m:Option Z):chk p m=m:=if_pos h
theorem jp_eq (F:S→Option Z) (m:(S→Option Z)→Option Z):jp F m=m F:=rfl
theorem idxS_eq {s:Str} {i:Nat} (h:i < s.length) (k:Int→Option Z):idxS s i k=k (s[i].toNat:Int):=by
 unfold idxS
 simp [h]
theorem idx_eq {l:List α} {i:Nat} (h:i < l.length) (k:α→Option Z):idx l i k=k l[i]:=by
 unfold idx
 simp [h]
theorem forL_all {f:Nat→α→Unit→(Unit→Option Z)→(Unit→Option Z)→Option Z} {z:Z} (q:α→Bool) (hf:∀ i x nx k,f i x () nx k=bif q x then nx () else some z) (k:Unit→Option Z) :
  ∀ (l:List α) (i:Nat),forL l i f () k=bif l.all q then k () else some z
 | [],i=>rfl
 | x::l,i=>by
  unfold forL
  rw [hf,forL_all q hf k l (i+1),List.all_cons]
  cases q x <;> rfl
theorem forL_run {f:Nat→α→S→(S→Option Z)→(S→Option Z)→Option Z} {k:S→Option Z} (inv:Nat→List α→S→Prop) (R:Nat→List α→S→Option Z)
  (h0:∀ i s,inv i [] s→k s=R i [] s) (h1:∀ i x l s nx,inv i (x::l) s→(∀ s',inv (i+1) l s'→nx s'=R (i+1) l s')→f i x s nx k=R i (x::l) s) :
  ∀ (l:List α) (i:Nat) (s:S),inv i l s→forL l i f s k=R i l s
 | [],i,s,h=>h0 i s h
 | x::l,i,s,h=>h1 i x l s _ h fun s' hs=>forL_run inv R h0 h1 l (i+1) s' hs
theorem loopN_run {f:S→(S→Option Z)→(S→Option Z)→Option Z} {k:S→Option Z} (inv:S→Prop) (mu:S→Nat) (R:S→Option Z)
  (h:∀ s nx,inv s→(∀ s',inv s'→mu s' < mu s→nx s'=R s')→f s nx k=R s):∀ (N:Nat) (s:S),inv s→mu s < N→loopN N f s k=R s
 | 0,s,_,hm=>by omega
 | N+1,s,hi,hm=>by
  unfold loopN
  exact h s _ hi fun s' hs' hlt=>loopN_run inv mu R h N s' hs' (by omega)
theorem forC_run {f:Nat→S→(S→Option Z)→(S→Option Z)→Option Z} {k:S→Option Z} (n:Nat) (inv:Nat→S→Prop) (R:Nat→S→Option Z)
  (h0:∀ s,inv n s→k s=R n s) (h1:∀ i s nx,i < n→inv i s→(∀ s',inv (i+1) s'→nx s'=R (i+1) s')→f i s nx k=R i s) :
  ∀ (m i:Nat) (s:S),m+i=n→inv i s→forC m i f s k=R i s
 | 0,i,s,e,h=>by
  obtain rfl:i=n:=by omega
  exact h0 s h
 | m+1,i,s,e,h=>by
  unfold forC
  exact h1 i s _ (by omega) h fun s' hs=>forC_run n inv R h0 h1 m (i+1) s' (by omega) hs
theorem condN (c:Bool) (x y:Z):(bif c then x else y)=bif !c then y else x:=by cases c <;> rfl
theorem bif_t {c:Bool} (h:c=true) (x y:Z):(bif c then x else y)=x:=by rw [h]; rfl
theorem bif_f {c:Bool} (h:c=false) (x y:Z):(bif c then x else y)=y:=by rw [h]; rfl
end
theorem wrapS {n:Int} (h1:-9223372036854775808≤n) (h2:n≤9223372036854775807):IntKind.i64.wrap n=n:=wrap64 h1 h2
theorem wrapN (n:Nat) (h:n≤9223372036854775807):IntKind.i64.wrap (n:Int)=n:=wrap64 (by omega) (by omega)
theorem wrap1 (i:Nat) (h:i < 9223372036854775807):IntKind.i64.wrap ((i:Int)+1)=((i+1:Nat):Int):=by rw [wrapS (by omega) (by omega)]; rfl
theorem wrapm1 (i:Nat) (h0:0 < i) (h:i < 9223372036854775807):IntKind.i64.wrap ((i:Int) - 1)=((i - 1:Nat):Int):=by rw [wrapS (by omega) (by omega)]; omega
theorem fuel_ge:1099511627776≤Fuel:=Nat.le_refl _
theorem wrapU (n:Nat) (h:n < 18446744073709551616):IntKind.u64.wrap (n:Int)=n:=by
 unfold IntKind.wrap
 simp only [IntKind.bits,IntKind.signed,Bool.false_and,Bool.false_eq_true,if_false]
 omega
theorem wrapU8 (n:Int):IntKind.u8.wrap n=n % 256:=by
 unfold IntKind.wrap
 simp only [IntKind.bits,IntKind.signed,Bool.false_and,Bool.false_eq_true,if_false]
 omega
theorem wrapU_range (n:Int):∃ m:Nat,IntKind.u64.wrap n=m∧m < 18446744073709551616:=by
 refine ⟨(n % 18446744073709551616).toNat,?_,by omega⟩
 unfold IntKind.wrap
 simp only [IntKind.bits,IntKind.signed,Bool.false_and,Bool.false_eq_true,if_false]
 omega
theorem shr_eq (n c:Nat) (k:IntKind) (hc:c≤k.bits):Int.fdiv (n:Int) (2 ^ (shI k (c:Int)))=((n / 2 ^ c:Nat):Int):=by
 have:shI k (c:Int)=c:=by unfold shI; simp; omega
 rw [this,Int.fdiv_eq_ediv_of_nonneg _ (Int.le_of_lt (Int.pow_pos (by decide)))]
 rw [Int.natCast_ediv,Int.natCast_pow]; rfl
theorem and_mask (n c m:Nat) (h:n < 18446744073709551616) (hm:m=2 ^ c - 1) (hc:c < 64):bitsI .and .u64 (n:Int) (m:Int)=((n % 2 ^ c:Nat):Int):=by
 subst hm
 have h1:2 ^ c≤2 ^ 63:=Nat.pow_le_pow_right (by decide) (by omega)
 show IntKind.u64.wrap (((BitVec.ofInt 64 (n:Int) &&& BitVec.ofInt 64 ((2 ^ c - 1:Nat):Int)).toNat:Nat):Int)=_
 rw [BitVec.toNat_and,BitVec.toNat_ofInt,BitVec.toNat_ofInt]
 have e1:((n:Int) % ((2 ^ 64:Nat):Int)).toNat=n:=by omega
 have e2:(((2 ^ c - 1:Nat):Int) % ((2 ^ 64:Nat):Int)).toNat=2 ^ c - 1:=by omega
 rw [e1,e2,Nat.and_two_pow_sub_one_eq_mod]
 exact wrapU _ (Nat.lt_of_le_of_lt (Nat.mod_le _ _) h)
theorem forL_fold {Z S α:Type} (g:S→α→S) (k:S→Option Z):∀ (l:List α) (i:Nat) (s:S),forL l i (fun _ c s nx _=>nx (g s c)) s k=k (l.foldl g s)
 | [],_,_=>rfl
 | x::l,i,s=>by
  unfold forL
  exact forL_fold g k l (i+1) (g s x)
theorem set_map_range {α:Type} (n i:Nat) (f:Nat→α) (v:α):((List.range n).map f).set i v=(List.range n).map (fun j=>if j=i then v else f j):=by
 apply List.ext_getElem
 ·simp
 ·intro j h1 h2
  simp only [List.getElem_set,List.getElem_map,List.getElem_range]
  by_cases h:i=j
  ·subst h; simp
  ·rw [if_neg h,if_neg (Ne.symm h)]
theorem strOf_map {α:Type} (l:List α) (f:α→UInt8):Go.Vc.strOf (l.map fun x=>((f x).toNat:Int))=l.map f:=by
 unfold Go.Vc.strOf
 simp
def HXs:Str:=[48,49,50,51,52,53,54,55,56,57,97,98,99,100,101,102]
def D36:Str:=[48,49,50,51,52,53,54,55,56,57,97,98,99,100,101,102,103,104,105,106,107,108,109,110,111,112,113,114,115,116,117,118,119,120,121,122]
def dg (n:Nat):UInt8:=HXs.getD n 0
def hx:Nat→Nat→Str
 | 0,_=>[]
 | k+1,n=>hx k (n / 16)++[dg (n % 16)]
def hashI (h:Int) (c:UInt8):Int:=IntKind.u64.wrap ((bitsI .xor .u64 h (IntKind.u64.wrap (c.toNat:Int))) * 1099511628211)
def hashZ (s:Str):Int:=s.foldl hashI 14695981039346656037
def sumS (s:Str):Str:=hx 16 (hashZ s).toNat
theorem hashZ_nat (s:Str):∃ n:Nat,hashZ s=n∧n < 18446744073709551616:=by
 have:∀ (s:Str) (h:Int),(∃ n:Nat,h=n∧n < 18446744073709551616)→∃ n:Nat,s.foldl hashI h=n∧n < 18446744073709551616:=by
  intro s
  induction s with
  | nil=>exact fun h hh=>hh
  | cons c s ih=>exact fun h _=>ih _ (wrapU_range _)
 exact this s _ ⟨14695981039346656037,rfl,by decide⟩
theorem hx_length:∀ (k n:Nat),(hx k n).length=k
 | 0,_=>rfl
 | k+1,n=>by simp [hx,hx_length k]
theorem sumS_length (s:Str):(sumS s).length=16:=hx_length _ _
theorem dg_d36:∀ m:Fin 16,D36.getD m.val 0=dg m.val:=by decide
theorem idx_hx {Z:Type} (m:Nat) (h:m < 16) (k:Int→Option Z):idxS HXs (m:Int) k=k ((dg m).toNat:Int):=by
 rw [idxS_eq (by simpa [HXs] using h)]
 simp only [dg,List.getD_eq_getElem?_getD,List.getElem?_eq_getElem (show m < HXs.length by simpa [HXs] using h),Option.getD_some]
theorem idx_d36 {Z:Type} (m:Nat) (h:m < 16) (k:Int→Option Z):idxS D36 (m:Int) k=k ((dg m).toNat:Int):=by
 have hl:m < D36.length:=by simp [D36]; omega
 rw [idxS_eq hl,← dg_d36 ⟨m,h⟩]
 simp only [List.getD_eq_getElem?_getD,List.getElem?_eq_getElem hl,Option.getD_some]
theorem hx16 (n:Nat):(List.range 16).map (fun j=>dg (n / 2 ^ (60 - 4 * j) % 16))=hx 16 n:=by
 simp only [hx,List.range,List.range.loop,List.map_cons,List.map_nil,Nat.div_div_eq_div_mul,List.nil_append,List.cons_append]
 simp
theorem disk_SumOf_eq (s:Str):disk_SumOf s=some (sumS s):=by
 obtain ⟨n,hn,hlt⟩:=hashZ_nat s
 unfold disk_SumOf
 obtain ⟨N,hN⟩:∃ N,Fuel=N:=⟨_,rfl⟩
 have hF:1099511627776≤N:=hN ▸ fuel_ge
 rw [hN]
 show forL s 0 (fun _ c h nx _=>nx (hashI h c)) 14695981039346656037 _=_
 rw [forL_fold]
 show jp _ (fun k_27=>loopN N _ _ _)=_
 rw [show s.foldl hashI 14695981039346656037=(n:Int) from hn]
 unfold jp
 let arr:=fun i:Nat=>(List.range 16).map fun j=>if j < i then ((dg (n / 2 ^ (60 - 4 * j) % 16)).toNat:Int) else 0
 refine (loopN_run (fun s=>∃ i:Nat,s.1=(i:Int)∧i≤16∧s.2=arr i) (fun s=>16 - s.1.toNat) (fun _=>some (sumS s)) ?_ N _ ⟨0,rfl,by omega,?_⟩ (by show 16 - Int.toNat 0 < N; simp; omega)).trans rfl
 ·rintro ⟨t,o⟩ nx ⟨i,h1,hi,h2⟩ hnx
  obtain rfl:t=i:=h1
  obtain rfl:o=arr i:=h2
  simp only [List.length_replicate]
  by_cases h:i < 16
  ·rw [bif_t (decide_eq_true (by omega))]
   have e1:IntKind.i64.wrap (60 - IntKind.i64.wrap (4 * (i:Int)))=((60 - 4 * i:Nat):Int):=by
    rw [wrapS (n:=4 * (i:Int)) (by omega) (by omega),wrapS (by omega) (by omega)]; omega
   rw [e1,chk_true (by omega),shr_eq _ _ _ (by simp only [IntKind.bits]; omega)]
   rw [show (15:Int)=((15:Nat):Int) from rfl,and_mask _ 4 15 (Nat.lt_of_le_of_lt (Nat.div_le_self _ _) hlt) (by decide) (by decide)]
   show idxS HXs _ _=_
   rw [idx_hx _ (Nat.mod_lt _ (by decide)),chk_true (by simp [arr]; omega),wrap1 i (by omega)]
   refine hnx _ ⟨i+1,rfl,by omega,?_⟩ ?_
   ·show List.set (arr i) (Int.toNat (i:Int)) _=_
    rw [Int.toNat_natCast]
    show ((List.range 16).map _).set i _=(List.range 16).map _
    rw [set_map_range]
    apply List.map_congr_left
    intro j _
    by_cases hj:j=i
    ·subst hj; rw [if_pos rfl,if_pos (by omega)]
    ·rw [if_neg hj]
     by_cases hj':j < i
     ·rw [if_pos hj',if_pos (by omega)]
     ·rw [if_neg hj',if_neg (by omega)]
   ·show 16 - Int.toNat ((i+1:Nat):Int) < 16 - Int.toNat (i:Int)
    rw [Int.toNat_natCast,Int.toNat_natCast]; omega
  ·rw [bif_f (decide_eq_false (by omega))]
   obtain rfl:i=16:=by omega
   show some (Go.Vc.strOf (arr 16))=_
   have:arr 16=(List.range 16).map fun j=>((dg (n / 2 ^ (60 - 4 * j) % 16)).toNat:Int):=by
    apply List.map_congr_left
    intro j hj
    rw [if_pos (List.mem_range.1 hj)]
   rw [this,strOf_map,hx16]
   unfold sumS
   rw [hn]; rfl
 ·show List.replicate 16 (0:Int)=_
  apply List.ext_getElem
  ·simp [arr]
  ·intro j h1 h2
   rw [List.getElem_replicate]
   simp only [arr,List.getElem_map,List.getElem_range]
   rfl
def fm:Nat→Nat→Str
 | 0,n=>[dg n]
 | k+1,n=>if n < 16 then [dg n] else fm k (n / 16)++[dg (n % 16)]
theorem hx_zero:∀ k:Nat,hx k 0=List.replicate k 48
 | 0=>rfl
 | k+1=>by
  show hx k (0 / 16)++[dg (0 % 16)]=_
  rw [Nat.zero_div,hx_zero k,List.replicate_succ']; rfl
theorem fm_len:∀ k n:Nat,1≤(fm k n).length∧(fm k n).length≤k+1
 | 0,n=>by simp [fm]
 | k+1,n=>by
  have:=fm_len k (n / 16)
  simp only [fm]
  split <;> simp <;> omega
theorem fm_pad:∀ k n:Nat,n < 16 ^ (k+1)→List.replicate (k+1 - (fm k n).length) 48++fm k n=hx (k+1) n
 | 0,n,h=>by
  have:n % 16=n:=Nat.mod_eq_of_lt (by simpa using h)
  simp [fm,hx,this]
 | k+1,n,h=>by
  have hl:=fm_len k (n / 16)
  simp only [fm]
  split
  ·rename_i h16
   have e1:n / 16=0:=Nat.div_eq_of_lt h16
   have e2:n % 16=n:=Nat.mod_eq_of_lt h16
   show _=hx (k+1) (n / 16)++[dg (n % 16)]
   rw [e1,e2,hx_zero]; rfl
  ·have ih:=fm_pad k (n / 16) (by rw [Nat.pow_succ] at h; omega)
   show _=hx (k+1) (n / 16)++[dg (n % 16)]
   rw [← ih,List.length_append,List.append_assoc]
   congr 2
   simp
theorem tz16:math_bits_TrailingZeros (IntKind.u64.wrap 16)=some 4:=by decide +kernel
theorem pow16:internal_strconv_isPowerOfTwo 16=some true:=by decide +kernel
theorem set_drop (l:List Int) (i:Nat) (v:Int) (h:i < l.length):(l.set i v).drop i=v::l.drop (i+1):=by
 rw [List.drop_set]
 simp only [Nat.lt_irrefl,if_false,Nat.sub_self]
 rw [List.drop_eq_getElem_cons h]
 rfl
theorem strOf_cons' (v:UInt8) (l:List Int):Go.Vc.strOf ((v.toNat:Int)::l)=v::Go.Vc.strOf l:=by simp [Go.Vc.strOf]
theorem formatBits16 (n:Nat) (h:n < 18446744073709551616):internal_strconv_formatBits [] (n:Int) 16 false false=some ([],fm 15 n):=by
 unfold internal_strconv_formatBits
 obtain ⟨N,hN⟩:∃ N,Fuel=N:=⟨_,rfl⟩
 have hF:1099511627776≤N:=hN ▸ fuel_ge
 rw [hN]
 simp only [pow16,tz16,call_some,jp,cond_true,cond_false,show decide ((16:Int) < 2)=false from rfl,show decide ((16:Int)=10)=false from rfl,show decide ((36:Int) < 16)=false from rfl,Bool.or_self]
 have hw:IntKind.u64.wrap 16=16:=by decide
 have hw4:IntKind.u64.wrap 4=((4:Nat):Int):=by decide
 have hw15:IntKind.u64.wrap (16 - 1)=((15:Nat):Int):=by decide
 rw [hw,hw4,hw15]
 refine (loopN_run (fun s=>∃ m j:Nat,s.1=(m:Int)∧s.2.1=(j:Int)∧j≤65∧50≤j∧m < 16 ^ (j - 49)∧s.2.2.length=65∧fm 15 n=fm (j - 50) m++Go.Vc.strOf (s.2.2.drop j)) (fun s=>s.2.1.toNat) (fun _=>some ([],fm 15 n)) ?_ N _ ⟨n,65,rfl,rfl,by omega,by omega,by omega,by simp,by simp [Go.Vc.strOf]⟩ (by show Int.toNat 65 < N; simp; omega))
 rintro ⟨u,i,o⟩ nx ⟨m,j,h1,h2,hj,hj',hm,hl,hf⟩ hnx
 obtain rfl:u=m:=h1
 obtain rfl:i=j:=h2
 simp only
 simp only at hl hf
 have hmlt:m < 18446744073709551616:=Nat.lt_of_lt_of_le hm (Nat.le_trans (Nat.pow_le_pow_right (by decide) (show j - 49≤16 by omega)) (by decide))
 have e1:IntKind.i64.wrap ((j:Int) - 1)=((j - 1:Nat):Int):=wrapm1 j (by omega) (by omega)
 rw [e1]
 by_cases hc:16≤m
 ·rw [bif_t (decide_eq_true (by omega)),and_mask m 4 15 hmlt (by decide) (by decide)]
  show idxS D36 _ _=_
  rw [idx_d36 _ (Nat.mod_lt _ (by decide)),chk_true (by omega),chk_true (by omega),shr_eq m 4 .u64 (by decide)]
  have h50:50 < j:=by
   rcases Nat.lt_or_ge 50 j with h' | h'
   ·exact h'
   ·exfalso
    obtain rfl:j=50:=by omega
    simp at hm; omega
  refine hnx _ ⟨m / 16,j - 1,rfl,rfl,by omega,by omega,?_,by simpa using hl,?_⟩ (by show Int.toNat _ < Int.toNat _; rw [Int.toNat_natCast,Int.toNat_natCast]; omega)
  ·have:16 ^ (j - 49)=16 ^ (j - 1 - 49) * 16:=by rw [← Nat.pow_succ]; congr 1; omega
   rw [this] at hm
   omega
  ·rw [hf,Int.toNat_natCast]
   rw [show j - 50=(j - 1 - 50)+1 by omega]
   simp only [fm]
   rw [if_neg (by omega),set_drop _ _ _ (by omega),strOf_cons',show j - 1+1=j by omega,List.append_assoc]
   rfl
 ·rw [bif_f (decide_eq_false (by omega))]
  show idxS D36 _ _=_
  rw [idx_d36 m (by omega),chk_true (by omega)]
  rw [chk_true (by simp only [List.length_set]; omega)]
  rw [Int.toNat_natCast,set_drop _ _ _ (by omega),show j - 1+1=j by omega,List.take_of_length_le (by simp; omega),strOf_cons',hf]
  have:fm (j - 50) m=[dg m]:=by
   cases e:j - 50 with
   | zero=>rfl
   | succ k=>simp only [fm]; rw [if_pos (by omega)]
  rw [this]; rfl
theorem FormatUint16 (n:Nat) (h:n < 18446744073709551616):strconv_FormatUint (n:Int) 16=some (fm 15 n):=by
 unfold strconv_FormatUint internal_strconv_FormatUint
 rw [formatBits16 n h]; rfl
theorem repeat0:∀ c:Fin 17,strings_Repeat [48] (c.val:Int)=some (List.replicate c.val 48):=by
 intro c
 obtain ⟨c,hc⟩:=c
 simp only
 unfold strings_Repeat
 obtain ⟨N,hN⟩:∃ N,Fuel=N:=⟨_,rfl⟩
 rw [hN]
 clear hN
 by_cases h0:c=0
 ·subst h0; rfl
 by_cases h1:c=1
 ·subst h1; rfl
 rw [bif_f (decide_eq_false (by omega)),bif_f (decide_eq_false (by omega))]
 have hm:∀ c:Fin 17,math_bits_Mul (IntKind.u64.wrap (([48]:Str).length:Int)) (IntKind.u64.wrap (c.val:Int))=some (0,(c.val:Int)):=by decide +kernel
 simp only [jp_eq]
 rw [bif_f (decide_eq_false (by omega)),hm ⟨c,hc⟩]
 simp only [call_some]
 rw [show decide ((0:Int) < 0)=false from rfl,bif_f (by simp; omega)]
 rw [bif_f (by simp)]
 show idxS [48] ((0:Nat):Int) _=_
 rw [idxS_eq (by simp)]
 simp only [List.getElem_cons_zero]
 rw [show decide (((48:UInt8).toNat:Int)=32)=false from rfl,show decide (((48:UInt8).toNat:Int)=45)=false from rfl,show decide (((48:UInt8).toNat:Int)=48)=true from rfl,cond_false,cond_false,cond_true,cond_true]
 have hp:∀ (g:Bool) (a b:Str) (k:Bool→Option Str),strings_HasPrefix a b=some false→callG g (strings_HasPrefix a b) false k=k false:=by
  intro g a b k h
  rw [h,callG_some]
  cases g <;> rfl
 have ew:IntKind.i64.wrap (c:Int)=c:=wrapN c (by omega)
 rw [hp _ _ _ _ (by decide +kernel),Bool.and_false,cond_false,hp _ _ _ _ (by decide +kernel),Bool.and_false,cond_false,ew]
 rw [show strings_HasPrefix _ [48]=some true from by decide +kernel,callG_some,decide_eq_true (by omega:(c:Int)≤64)]
 simp only [Bool.and_true,cond_true]
 have hk:∀ c:Fin 17,List.take (Int.toNat (c.val:Int)) ([48,48,48,48,48,48,48,48,48,48,48,48,48,48,48,48,48,48,48,48,48,48,48,48,48,48,48,48,48,48,48,48,48,48,48,48,48,48,48,48,48,48,48,48,48,48,48,48,48,48,48,48,48,48,48,48,48,48,48,48,48,48,48,48]:Str)=List.replicate c.val 48:=by decide
 rw [chk_true (by simp; omega),hk ⟨c,hc⟩]
theorem R_SumOf_eq (s:Str):R_SumOf s=some (sumS s):=by
 obtain ⟨n,hn,hlt⟩:=hashZ_nat s
 unfold R_SumOf
 show jp _ (fun k=>forL s 0 (fun _ c h nx _=>nx (hashI h c)) 14695981039346656037 _)=_
 simp only [jp_eq]
 rw [forL_fold]
 rw [show s.foldl hashI 14695981039346656037=(n:Int) from hn,FormatUint16 n hlt]
 have hl:=fm_len 15 n
 simp only [call_some]
 rw [show IntKind.i64.wrap (16 - ((fm 15 n).length:Int))=((16 - (fm 15 n).length:Nat):Int) by rw [wrapS (by omega) (by omega)]; omega]
 have:=repeat0 ⟨16 - (fm 15 n).length,by omega⟩
 simp only at this
 rw [this,call_some,chk_true (by simp; omega),fm_pad 15 n (by omega)]
 unfold sumS
 rw [hn]; rfl
theorem u8all {p:UInt8→Prop} (h:∀ n:Fin 256,p (UInt8.ofNat n.val)) (c:UInt8):p c:=by
 have:=h ⟨c.toNat,c.toNat_lt⟩
 simpa using this
def isHx (c:UInt8):Bool:=(decide (48≤(c.toNat:Int)) && decide ((c.toNat:Int)≤57)) || (decide (97≤(c.toNat:Int)) && decide ((c.toNat:Int)≤102))
def isS (s:Str):Bool:=s.all isHx && decide ((s.length:Int)=16)
def hv1 (c:UInt8):Nat:=if c.toNat≤57 then c.toNat - 48 else c.toNat - 87
def hv (s:Str):Nat:=s.foldl (fun n c=>n * 16+hv1 c) 0
theorem hv1_lt (c:UInt8) (h:isHx c=true):hv1 c < 16:=by
 revert c
 exact u8all (by decide +kernel)
theorem hv_take (s:Str) (i:Nat) (h:i < s.length):hv (s.take (i+1))=hv (s.take i) * 16+hv1 s[i]:=by
 unfold hv
 rw [List.take_succ_eq_append_getElem h,List.foldl_append]
 rfl
theorem hv_lt (s:Str) (hs:∀ c ∈ s,isHx c=true):∀ i,i≤s.length→hv (s.take i) < 16 ^ i
 | 0,_=>by simp [hv]
 | i+1,h=>by
  have ih:=hv_lt s hs i (by omega)
  have h1:=hv1_lt s[i] (hs _ (List.getElem_mem _))
  rw [hv_take s i (by omega),Nat.pow_succ]
  omega
theorem delta_isSum_eq (s:Str):delta_isSum s=some (isS s):=by
 unfold delta_isSum
 rw [jp_eq]
 refine (forL_all (z:=false) (q:=isHx) (fun i x nx k=>?_) _ s 0).trans ?_
 ·rw [condN,Bool.not_not]; rfl
 ·unfold isS
  cases s.all isHx <;> rfl
theorem R_IsSum_eq (s:Str):R_IsSum s=some (isS s):=by
 unfold R_IsSum
 rw [jp_eq]
 refine (forL_all (z:=false) (q:=isHx) (fun i x nx k=>?_) _ s 0).trans ?_
 ·rw [condN]
  congr 1
  revert x
  exact u8all (by decide +kernel)
 ·unfold isS
  cases s.all isHx <;> rfl
theorem bytesOf_getD (s:Str) (i:Nat) (h:i < s.length):(bytesOf s).getD i 0=((s[i]).toNat:Int):=by
 unfold bytesOf
 rw [List.getD_eq_getElem?_getD,List.getElem?_map,List.getElem?_eq_getElem h]
 rfl
theorem lowA:∀ c:UInt8,isHx c=true→(decide (48≤(c.toNat:Int)) && decide ((c.toNat:Int)≤57))=true∧IntKind.u8.wrap ((c.toNat:Int) - 48)=hv1 c ∨
  (decide (48≤(c.toNat:Int)) && decide ((c.toNat:Int)≤57))=false∧internal_strconv_lower (c.toNat:Int)=some (c.toNat:Int)∧decide (97≤(c.toNat:Int))=true∧decide ((c.toNat:Int)≤122)=true∧IntKind.u8.wrap ((IntKind.u8.wrap ((c.toNat:Int) - 97))+10)=hv1 c :=
 u8all (by decide +kernel)
theorem wrapC4:IntKind.u64.wrap ((IntKind.u64.wrap (1 * 2 ^ (shI .u64 64))) - 1)=18446744073709551615:=by decide +kernel
theorem pow16_le (i:Nat) (h:i≤15):16 ^ i≤1152921504606846976:=Nat.le_trans (Nat.pow_le_pow_right (by decide) h) (by decide)
theorem ParseUint_hex (s:Str) (h:isS s=true):strconv_ParseUint s 16 64=some (hv s:Int):=by
 unfold isS at h
 rw [Bool.and_eq_true,List.all_eq_true,decide_eq_true_eq] at h
 obtain ⟨hs,hl⟩:=h
 have hl:s.length=16:=by omega
 unfold strconv_ParseUint internal_strconv_ParseUint
 rw [bif_f (decide_eq_false (by intro e; rw [e] at hl; simp at hl)),jp_eq]
 dsimp only
 rw [bif_t (c:=decide ((2:Int)≤16) && decide ((16:Int)≤36)) rfl,jp_eq]
 dsimp only
 rw [bif_f (c:=decide ((64:Int)=0)) rfl,bif_f (c:=decide ((64:Int) < 0) || decide ((64:Int) < 64)) rfl,jp_eq]
 dsimp only
 rw [bif_f (c:=decide ((16:Int)=10)) rfl,bif_t (c:=decide ((16:Int)=16)) rfl]
 have c1:IntKind.u64.wrap 64=64:=by decide
 have c2:IntKind.u64.wrap 16=16:=by decide
 have c3:IntKind.u8.wrap 16=16:=by decide
 have c4:=wrapC4
 rw [c1,chk_true (by omega),c2,c3,c4,jp_eq]
 dsimp only
 have hdec:decide ((16:Int)=0)=false:=rfl
 rw [forC_run s.length (fun i st=>i≤s.length∧st.1=false∧st.2=((hv (s.take i):Nat):Int)) (fun _ _=>some (hv s:Int)) ?_ ?_ s.length 0 _ rfl ⟨by omega,rfl,by simp [hv]⟩]
 ·rfl
 ·rintro ⟨b,n⟩ ⟨_,h1,h2⟩
  obtain rfl:b=false:=h1
  obtain rfl:n=_:=h2
  simp only [callG_false,Bool.false_and,cond_false,List.take_length]
 ·rintro i ⟨b,n⟩ nx hi ⟨_,h1,h2⟩ hnx
  obtain rfl:b=false:=h1
  obtain rfl:n=_:=h2
  have hc:=hs s[i] (List.getElem_mem _)
  have hlt:=hv_lt s hs i (by omega)
  have hd:=hv1_lt _ hc
  replace hlt:hv (s.take i) < 1152921504606846976:=Nat.lt_of_lt_of_le hlt (pow16_le i (by omega))
  have fin:∀ d:Int,d=hv1 s[i]→(bif decide ((16:Int)≤d) then (none:Option Int) else
    bif decide ((1152921504606846976:Int)≤((hv (s.take i):Nat):Int)) then none else
    bif (decide ((IntKind.u64.wrap ((IntKind.u64.wrap (((hv (s.take i):Nat):Int) * 16))+(IntKind.u64.wrap d))) < (IntKind.u64.wrap (((hv (s.take i):Nat):Int) * 16))) || decide ((18446744073709551615:Int) < (IntKind.u64.wrap ((IntKind.u64.wrap (((hv (s.take i):Nat):Int) * 16))+(IntKind.u64.wrap d))))) then none else
    nx (false,IntKind.u64.wrap ((IntKind.u64.wrap (((hv (s.take i):Nat):Int) * 16))+(IntKind.u64.wrap d))))=some (hv s:Int):=by
   rintro d rfl
   have e1:IntKind.u64.wrap (((hv (s.take i):Nat):Int) * 16)=((hv (s.take i) * 16:Nat):Int):=by
    rw [show ((hv (s.take i):Nat):Int) * 16=((hv (s.take i) * 16:Nat):Int) by omega]
    exact wrapU _ (by omega)
   have e2:IntKind.u64.wrap (hv1 s[i]:Int)=(hv1 s[i]:Int):=wrapU _ (by omega)
   have e3:IntKind.u64.wrap (((hv (s.take i) * 16:Nat):Int)+(hv1 s[i]:Int))=((hv (s.take i) * 16+hv1 s[i]:Nat):Int):=by
    rw [show ((hv (s.take i) * 16:Nat):Int)+(hv1 s[i]:Int)=((hv (s.take i) * 16+hv1 s[i]:Nat):Int) by omega]
    exact wrapU _ (by omega)
   rw [e1,e2,e3]
   rw [bif_f (decide_eq_false (by omega)),bif_f (decide_eq_false (by omega)),bif_f (by rw [decide_eq_false (by omega),decide_eq_false (by omega)]; rfl)]
   exact hnx _ ⟨by omega,rfl,by rw [hv_take s i hi]⟩
  rw [jp_eq]
  simp only [hdec,Bool.and_false,cond_false,bytesOf_getD s i hi]
  rcases lowA _ hc with ⟨h1,h2⟩ | ⟨h1,h2,h3,h4,h5⟩
  ·rw [h1,cond_true]; exact fin _ h2
  ·rw [h1,cond_false,h2]
   simp only [call_some,callG_some,h3,h4,Bool.and_self,cond_true]
   exact fin _ h5
def grp:Nat→Nat→Str
 | 0,n=>[UInt8.ofNat (n % 128)]
 | k+1,n=>if n < 128 then [UInt8.ofNat n] else UInt8.ofNat (n % 128+128)::grp k (n / 128)
def grpS (n:Int):Str:=grp 3 n.toNat
theorem grp_len:∀ k n,(grp k n).length≤k+1
 | 0,n=>by simp [grp]
 | k+1,n=>by
  have:=grp_len k (n / 128)
  simp only [grp]
  split <;> simp
  omega
theorem grpS_len (n:Int):(grpS n).length≤4:=grp_len _ _
theorem or128:∀ m:Fin 128,bitsI .or .i64 (m.val:Int) 128=((m.val+128:Nat):Int):=by decide +kernel
theorem or128u:∀ m:Fin 128,bitsI .or .u8 (IntKind.u8.wrap (m.val:Int)) 128=((m.val+128:Nat):Int):=by decide +kernel
theorem and_maskS (n c m:Nat) (h:n < 9223372036854775808) (hm:m=2 ^ c - 1) (hc:c < 63):bitsI .and .i64 (n:Int) (m:Int)=((n % 2 ^ c:Nat):Int):=by
 subst hm
 have h1:2 ^ c≤2 ^ 62:=Nat.pow_le_pow_right (by decide) (by omega)
 show IntKind.i64.wrap (((BitVec.ofInt 64 (n:Int) &&& BitVec.ofInt 64 ((2 ^ c - 1:Nat):Int)).toNat:Nat):Int)=_
 rw [BitVec.toNat_and,BitVec.toNat_ofInt,BitVec.toNat_ofInt]
 have e1:((n:Int) % ((2 ^ 64:Nat):Int)).toNat=n:=by omega
 have e2:(((2 ^ c - 1:Nat):Int) % ((2 ^ 64:Nat):Int)).toNat=2 ^ c - 1:=by omega
 rw [e1,e2,Nat.and_two_pow_sub_one_eq_mod]
 have:=Nat.mod_le n (2 ^ c)
 exact wrapN _ (by omega)
theorem and127 (n:Nat) (h:n < 9223372036854775808):bitsI .and .i64 (n:Int) 127=((n % 128:Nat):Int):=and_maskS n 7 127 h rfl (by decide)
theorem shr7 (n:Nat):Int.fdiv (n:Int) (2 ^ (shI .i64 7))=((n / 128:Nat):Int):=shr_eq n 7 .i64 (by decide)
theorem u8ofNat (n:Nat) (h:n < 256):((UInt8.ofNat n).toNat:Int)=n:=by
 simp; omega
theorem bytesOf_app (a b:Str):bytesOf (a++b)=bytesOf a++bytesOf b:=List.map_append
theorem putNumber_eq (n:Int) (o:List Int) (h0:0≤n) (h1:n < 268435456) (ho:o.length≤274877906000):delta_putNumber_i1 n o=some (o++bytesOf (grpS n)):=by
 unfold delta_putNumber_i1
 obtain ⟨N,hN⟩:∃ N,Fuel=N:=⟨_,rfl⟩
 have hF:1099511627776≤N:=hN ▸ fuel_ge
 rw [hN,jp_eq]
 refine loopN_run (fun s=>∃ m k:Nat,s.1=(m:Int)∧k≤3∧m < 128 ^ (k+1)∧s.2.length+k≤274877906003∧o++bytesOf (grpS n)=s.2++bytesOf (grp k m)) (fun s=>s.1.toNat) (fun _=>some (o++bytesOf (grpS n))) ?_ N _ ⟨n.toNat,3,by simp; omega,by omega,by omega,by simp; omega,rfl⟩ (by show n.toNat < N; omega)
 rintro ⟨v,q⟩ nx ⟨m,k,hm,hk,hlt,hl,he⟩ hnx
 obtain rfl:v=m:=hm
 simp only
 simp only at hl he
 have hb:m < 268435456:=Nat.lt_of_lt_of_le hlt (Nat.le_trans (Nat.pow_le_pow_right (by decide) (show k+1≤4 by omega)) (by decide))
 by_cases h:128≤m
 ·obtain ⟨k',rfl⟩:∃ k',k=k'+1:=by
   rcases k with _ | k'
   ·simp at hlt; omega
   ·exact ⟨k',rfl⟩
  rw [bif_t (decide_eq_true (by omega)),and127 m (by omega)]
  have e:=or128 ⟨m % 128,Nat.mod_lt _ (by decide)⟩
  simp only at e
  rw [e,wrapU8,shr7 m,chk_true (by simp; omega)]
  refine hnx _ ⟨m / 128,k',rfl,by omega,?_,by simp; omega,?_⟩ (by show Int.toNat _ < Int.toNat _; rw [Int.toNat_natCast,Int.toNat_natCast]; omega)
  ·rw [Nat.pow_succ] at hlt; omega
  ·rw [he]
   simp only [grp]
   rw [if_neg (by omega),List.append_assoc]
   congr 1
 ·rw [bif_f (decide_eq_false (by omega)),wrapU8,chk_true (by simp; omega),he]
  congr 2
  have e:grp k m=[UInt8.ofNat m]:=by
   cases k with
   | zero=>show [_]=[_]; rw [Nat.mod_eq_of_lt (by omega)]
   | succ k=>simp only [grp]; rw [if_pos (by omega)]
  rw [e]
  show _=[((UInt8.ofNat m).toNat:Int)]
  rw [u8ofNat _ (by omega)]
  congr 1
  omega
theorem groups_eq (n:Int) (h0:0≤n) (h1:n < 268435456):R_groups n=some (grpS n):=by
 unfold R_groups
 obtain ⟨N,hN⟩:∃ N,Fuel=N:=⟨_,rfl⟩
 have hF:1099511627776≤N:=hN ▸ fuel_ge
 rw [hN,jp_eq]
 refine loopN_run (fun s=>∃ m k:Nat,s.1=(m:Int)∧k≤3∧m < 128 ^ (k+1)∧s.2.length+k≤3∧grpS n=s.2++grp k m) (fun s=>s.1.toNat) (fun _=>some (grpS n)) ?_ N _ ⟨n.toNat,3,by simp; omega,by omega,by omega,by simp,rfl⟩ (by show n.toNat < N; omega)
 rintro ⟨v,q⟩ nx ⟨m,k,hm,hk,hlt,hl,he⟩ hnx
 obtain rfl:v=m:=hm
 simp only
 simp only at hl he
 have hb:m < 268435456:=Nat.lt_of_lt_of_le hlt (Nat.le_trans (Nat.pow_le_pow_right (by decide) (show k+1≤4 by omega)) (by decide))
 by_cases h:128≤m
 ·obtain ⟨k',rfl⟩:∃ k',k=k'+1:=by
   rcases k with _ | k'
   ·simp at hlt; omega
   ·exact ⟨k',rfl⟩
  rw [bif_t (decide_eq_true (by omega)),and127 m (by omega)]
  have e:=or128u ⟨m % 128,Nat.mod_lt _ (by decide)⟩
  simp only at e
  rw [e,shr7 m]
  have es:Go.Vc.strOf [((m % 128+128:Nat):Int)]=[UInt8.ofNat (m % 128+128)]:=by simp only [Go.Vc.strOf,List.map_cons,List.map_nil,Int.toNat_natCast]
  rw [es,chk_true (by simp; omega)]
  refine hnx _ ⟨m / 128,k',rfl,by omega,?_,by simp; omega,?_⟩ (by show Int.toNat _ < Int.toNat _; rw [Int.toNat_natCast,Int.toNat_natCast]; omega)
  ·rw [Nat.pow_succ] at hlt; omega
  ·rw [he]
   simp only [grp]
   rw [if_neg (by omega),List.append_assoc]
   rfl
 ·rw [bif_f (decide_eq_false (by omega)),wrapU8]
  have es:Go.Vc.strOf [(m:Int) % 256]=[UInt8.ofNat m]:=by
   rw [show (m:Int) % 256=(m:Int) by omega]
   simp only [Go.Vc.strOf,List.map_cons,List.map_nil,Int.toNat_natCast]
  rw [es,chk_true (by simp; omega),he]
  have e:grp k m=[UInt8.ofNat m]:=by
   cases k with
   | zero=>show [_]=[_]; rw [Nat.mod_eq_of_lt (by omega)]
   | succ k=>simp only [grp]; rw [if_pos (by omega)]
  rw [e]
def raw8 (n:Nat):Str:=(List.range 8).map fun i=>UInt8.ofNat (n / 2 ^ (56 - 8 * i) % 256)
theorem raw8_len (n:Nat):(raw8 n).length=8:=by simp [raw8]
theorem putSum_eq (s:Str) (o:List Int) (hs:isS s=true) (ho:o.length≤274877906000):delta_putSum_i1 s o=some (o++bytesOf (raw8 (hv s))):=by
 unfold delta_putSum_i1
 obtain ⟨N,hN⟩:∃ N,Fuel=N:=⟨_,rfl⟩
 have hF:1099511627776≤N:=hN ▸ fuel_ge
 rw [ParseUint_hex s hs,call_some,hN,jp_eq,jp_eq]
 generalize hv s=n
 refine loopN_run (fun st=>∃ j:Nat,j≤8∧st.1=56 - 8 * (j:Int)∧st.2=o++bytesOf ((raw8 n).take j)) (fun st=>(st.1+8).toNat) (fun _=>some (o++bytesOf (raw8 n))) ?_ N _ ⟨0,by omega,rfl,by simp [bytesOf]⟩ (by show Int.toNat _ < N; simp; omega)
 rintro ⟨v,q⟩ nx ⟨j,hj,hv,hq⟩ hnx
 obtain rfl:v=56 - 8 * (j:Int):=hv
 obtain rfl:q=_:=hq
 simp only
 by_cases h:j < 8
 ·rw [bif_t (decide_eq_true (by omega)),chk_true (by omega)]
  have e1:(56 - 8 * (j:Int))=((56 - 8 * j:Nat):Int):=by omega
  have hlen:(bytesOf ((raw8 n).take j)).length≤8:=by rw [bytesOf_length,List.length_take,raw8_len]; omega
  rw [chk_true (by simp only [List.length_append,List.length_cons,List.length_nil]; omega),e1,shr_eq n _ .u64 (by simp only [IntKind.bits]; omega),wrapU8,wrapS (by omega) (by omega)]
  refine hnx _ ⟨j+1,by omega,by simp only; omega,?_⟩ (by show Int.toNat _ < Int.toNat _; omega)
  simp only
  rw [List.append_assoc,List.take_succ_eq_append_getElem (by rw [raw8_len]; exact h),bytesOf_app]
  congr 2
  show _=[(((raw8 n)[j]'(by rw [raw8_len]; exact h)).toNat:Int)]
  simp only [raw8,List.getElem_map,List.getElem_range]
  rw [u8ofNat _ (Nat.mod_lt _ (by decide))]
  congr 1
 ·rw [bif_f (decide_eq_false (by omega))]
  obtain rfl:j=8:=by omega
  rw [List.take_of_length_le (by rw [raw8_len]; omega)]
theorem rawSum_eq (s:Str) (hs:isS s=true):R_rawSum s=some (raw8 (hv s)):=by
 unfold R_rawSum
 obtain ⟨N,hN⟩:∃ N,Fuel=N:=⟨_,rfl⟩
 have hF:1099511627776≤N:=hN ▸ fuel_ge
 rw [ParseUint_hex s hs,call_some,hN,jp_eq]
 generalize hv s=n
 let arr:=fun i:Nat=>(List.range 8).map fun j=>if j < i then ((UInt8.ofNat (n / 2 ^ (56 - 8 * j) % 256)).toNat:Int) else 0
 refine loopN_run (fun s=>∃ i:Nat,s.1=(i:Int)∧i≤8∧s.2=arr i) (fun s=>8 - s.1.toNat) (fun _=>some (raw8 n)) ?_ N _ ⟨0,rfl,by omega,?_⟩ (by show 8 - Int.toNat 0 < N; simp; omega)
 ·rintro ⟨t,o⟩ nx ⟨i,h1,hi,h2⟩ hnx
  obtain rfl:t=i:=h1
  obtain rfl:o=arr i:=h2
  simp only [List.length_replicate]
  by_cases h:i < 8
  ·rw [bif_t (decide_eq_true (by omega))]
   have e1:IntKind.i64.wrap (56 - IntKind.i64.wrap (8 * (i:Int)))=((56 - 8 * i:Nat):Int):=by
    rw [wrapS (n:=8 * (i:Int)) (by omega) (by omega),wrapS (by omega) (by omega)]; omega
   rw [e1,chk_true (by omega),shr_eq _ _ _ (by simp only [IntKind.bits]; omega),wrapU8,chk_true (by simp [arr]; omega),wrap1 i (by omega)]
   refine hnx _ ⟨i+1,rfl,by omega,?_⟩ ?_
   ·show List.set (arr i) (Int.toNat (i:Int)) _=_
    rw [Int.toNat_natCast]
    show ((List.range 8).map _).set i _=(List.range 8).map _
    rw [set_map_range]
    apply List.map_congr_left
    intro j _
    by_cases hj:j=i
    ·subst hj; rw [if_pos rfl,if_pos (by omega),u8ofNat _ (Nat.mod_lt _ (by decide))]; omega
    ·rw [if_neg hj]
     by_cases hj':j < i
     ·rw [if_pos hj',if_pos (by omega)]
     ·rw [if_neg hj',if_neg (by omega)]
   ·show 8 - Int.toNat ((i+1:Nat):Int) < 8 - Int.toNat (i:Int)
    rw [Int.toNat_natCast,Int.toNat_natCast]; omega
  ·rw [bif_f (decide_eq_false (by omega))]
   obtain rfl:i=8:=by omega
   show some (Go.Vc.strOf (arr 8))=_
   have:arr 8=(List.range 8).map fun j=>((UInt8.ofNat (n / 2 ^ (56 - 8 * j) % 256)).toNat:Int):=by
    apply List.map_congr_left
    intro j hj
    rw [if_pos (List.mem_range.1 hj)]
   rw [this,strOf_map]; rfl
 ·show List.replicate 8 (0:Int)=_
  apply List.ext_getElem
  ·simp [arr]
  ·intro j h1 h2
   rw [List.getElem_replicate]
   simp only [arr,List.getElem_map,List.getElem_range]
   rfl
theorem dg_hx:∀ m:Fin 16,isHx (dg m.val)=true:=by decide +kernel
theorem hx_all:∀ k n,∀ c ∈ hx k n,isHx c=true
 | 0,_,c,h=>by cases h
 | k+1,n,c,h=>by
  rcases List.mem_append.1 h with h | h
  ·exact hx_all k _ c h
  ·obtain rfl:=List.mem_singleton.1 h
   exact dg_hx ⟨n % 16,Nat.mod_lt _ (by decide)⟩
theorem isS_sumS (s:Str):isS (sumS s)=true:=by
 unfold isS
 rw [Bool.and_eq_true,List.all_eq_true,decide_eq_true_eq,sumS_length]
 exact ⟨hx_all _ _,rfl⟩
theorem strOf_bytes (s:Str):Go.Vc.strOf (bytesOf s)=s:=strOf_bytesOf s
abbrev Pc:=api_Piece
def peL (old:Int):List Pc→Int→Int × Int
 | [],n=>bif decide (65536 < n) then (0,4) else (n,0)
 | p::l,n=>bif !decide (p.Data=[]) then
   (bif ((!decide (p.At=0)) || (!decide (p.Long=0))) then (0,2) else peL old l (IntKind.i64.wrap (n+(p.Data.length:Int))))
  else
   bif ((((decide (p.At < 0)) || (decide (p.Long < 1))) || (decide (old < p.At))) || (decide (old - p.At < p.Long))) then (0,3) else peL old l (IntKind.i64.wrap (n+p.Long))
def pe (l:List Pc) (old:Int):Int × Int :=
 bif ((decide (old < 0)) || (decide (65536 < old))) then (0,3) else bif decide (5000 < (l.length:Int)) then (0,4) else peL old l 0
theorem R_PiecesError_eq (l:List Pc) (old:Int):R_PiecesError l old=some (pe l old):=by
 unfold R_PiecesError pe
 cases h0:((decide (old < 0)) || (decide (65536 < old)))
 rotate_left
 ·rfl
 simp only [Bool.or_eq_false_iff,decide_eq_false_iff_not] at h0
 simp only [cond_false]
 cases decide (5000 < (l.length:Int))
 rotate_left
 ·rfl
 simp only [cond_false,jp_eq]
 refine forL_run (fun _ _ _=>True) (fun _ l n=>some (peL old l n)) ?_ ?_ l 0 0 trivial
 ·intro i n _; unfold peL; cases decide (65536 < n) <;> rfl
 ·intro i p l n nx _ hnx
  have ih:=fun n=>hnx n trivial
  unfold peL
  cases decide (p.Data=[])
  ·simp only [Bool.not_false,cond_true]
   cases ((!decide (p.At=0)) || (!decide (p.Long=0)))
   ·exact ih _
   ·rfl
  ·simp only [Bool.not_true,cond_false]
   have e:((((decide (p.At < 0)) || (decide (p.Long < 1))) || (decide (old < p.At))) || (decide ((IntKind.i64.wrap (old - p.At)) < p.Long)))=((((decide (p.At < 0)) || (decide (p.Long < 1))) || (decide (old < p.At))) || (decide (old - p.At < p.Long))):=by
    by_cases h:p.At < 0 ∨ old < p.At
    ·rcases h with h | h <;> simp [h]
    ·rw [wrapS (by omega) (by omega)]
   rw [e]
   cases ((((decide (p.At < 0)) || (decide (p.Long < 1))) || (decide (old < p.At))) || (decide (old - p.At < p.Long)))
   ·exact ih _
   ·rfl
theorem CheckSteps_eq (l:List Pc) (old:Int):delta_CheckSteps l old=some (pe l old):=by
 unfold delta_CheckSteps pe delta_outside
 rw [call_some]
 cases h0:((decide (old < 0)) || (decide (65536 < old)))
 rotate_left
 ·rfl
 simp only [Bool.or_eq_false_iff,decide_eq_false_iff_not] at h0
 simp only [cond_false]
 cases decide (5000 < (l.length:Int))
 rotate_left
 ·rfl
 simp only [cond_false,jp_eq]
 refine forL_run (fun _ _ _=>True) (fun _ l n=>some (peL old l n)) ?_ ?_ l 0 0 trivial
 ·intro i n _; unfold peL; cases decide (65536 < n) <;> rfl
 ·intro i p l n nx _ hnx
  have ih:=fun n=>hnx n trivial
  unfold peL
  cases decide (p.Data=[])
  ·simp only [Bool.not_false,cond_true]
   cases ((!decide (p.At=0)) || (!decide (p.Long=0)))
   ·exact ih _
   ·rfl
  ·simp only [Bool.not_true,cond_false]
   have e:((((decide (p.At < 0)) || (decide (p.Long < 1))) || (decide (old < p.Long))) || (decide ((IntKind.i64.wrap (old - p.Long)) < p.At)))=((((decide (p.At < 0)) || (decide (p.Long < 1))) || (decide (old < p.At))) || (decide (old - p.At < p.Long))):=by
    by_cases h1:p.At < 0
    ·simp [h1]
    by_cases h2:p.Long < 1
    ·simp [h2]
    by_cases h:old < p.Long
    ·have:old < p.At ∨ old - p.At < p.Long:=by omega
     rcases this with h' | h' <;> simp [h,h']
    ·rw [wrapS (by omega) (by omega)]
     have:(old - p.Long < p.At) ↔ (old < p.At ∨ old - p.At < p.Long):=by omega
     rw [decide_eq_false h1,decide_eq_false h2,decide_eq_false h]
     simp only [Bool.or_false,Bool.false_or]
     rw [← Bool.decide_or]
     exact decide_eq_decide.2 this
   rw [e]
   cases ((((decide (p.At < 0)) || (decide (p.Long < 1))) || (decide (old < p.At))) || (decide (old - p.At < p.Long)))
   ·exact ih _
   ·rfl
def Pok (old:Int) (p:Pc):Prop:=(p.Data ≠ []∧p.At=0∧p.Long=0) ∨ (p.Data=[]∧0≤p.At∧1≤p.Long∧p.At+p.Long≤old)
theorem peL_ok (old:Int):∀ (l:List Pc) (n:Int),(peL old l n).2=0→∀ p ∈ l,Pok old p
 | [],_,_,_,hp=>by cases hp
 | q::l,n,h,p,hp=>by
  unfold peL at h
  by_cases hd:q.Data=[]
  ·rw [decide_eq_true hd] at h
   simp only [Bool.not_true,cond_false] at h
   cases hc:((((decide (q.At < 0)) || (decide (q.Long < 1))) || (decide (old < q.At))) || (decide (old - q.At < q.Long))) <;> rw [hc] at h
   ·simp only [Bool.or_eq_false_iff,decide_eq_false_iff_not] at hc
    rcases List.mem_cons.1 hp with rfl | hp
    ·exact .inr ⟨hd,by omega,by omega,by omega⟩
    ·exact peL_ok old l _ h p hp
   ·simp at h
  ·rw [decide_eq_false hd] at h
   simp only [Bool.not_false,cond_true] at h
   cases hc:((!decide (q.At=0)) || (!decide (q.Long=0))) <;> rw [hc] at h
   ·simp only [Bool.or_eq_false_iff,Bool.not_eq_false',decide_eq_true_eq] at hc
    rcases List.mem_cons.1 hp with rfl | hp
    ·exact .inl ⟨hd,hc.1,hc.2⟩
    ·exact peL_ok old l _ h p hp
   ·simp at h
theorem pe_ok {l:List Pc} {old:Int} (h:(pe l old).2=0):0≤old∧old≤65536∧l.length≤5000∧∀ p ∈ l,Pok old p:=by
 unfold pe at h
 cases h0:((decide (old < 0)) || (decide (65536 < old))) <;> rw [h0] at h
 rotate_left
 ·simp at h
 simp only [cond_false] at h
 cases h1:decide (5000 < (l.length:Int)) <;> rw [h1] at h
 rotate_left
 ·simp at h
 simp only [Bool.or_eq_false_iff,decide_eq_false_iff_not] at h0 h1
 exact ⟨by omega,by omega,by omega,peL_ok old l 0 h⟩
def de (d:api_Delta):Int :=
 bif ((((decide (d.Old < 0)) || (decide (65536 < d.Old))) || (decide (d.New < 0))) || (decide (65536 < d.New))) then 3
 else bif !(isS d.OldSum && isS d.NewSum) then 2
 else bif decide ((pe d.Pieces d.Old).2=0) then (bif decide ((pe d.Pieces d.Old).1=d.New) then 0 else 11) else (pe d.Pieces d.Old).2
theorem first2 (a b:Int):R_first [a,b]=some (bif decide (a=0) then b else a):=by
 unfold R_first
 rw [jp_eq]
 by_cases h:a=0
 ·subst h
  by_cases h':b=0
  ·subst h'; rfl
  ·simp [forL,h']
 ·simp [forL,h]
theorem when_eq (b:Bool) (e:Int):R_when b e=some (bif b then e else 0):=by unfold R_when; cases b <;> rfl
theorem DeltaError_eq (d:api_Delta):R_DeltaError d=some (de d):=by
 unfold R_DeltaError de
 cases ((((decide (d.Old < 0)) || (decide (65536 < d.Old))) || (decide (d.New < 0))) || (decide (65536 < d.New)))
 rotate_left
 ·rfl
 simp only [cond_false,R_IsSum_eq,R_PiecesError_eq,call_some,callG_some,first2,when_eq]
 cases isS d.OldSum <;> simp only [Bool.not_false,Bool.not_true,cond_false,cond_true,Bool.true_or,Bool.false_or,Bool.false_and,Bool.true_and]
 cases isS d.NewSum <;> simp only [Bool.not_false,Bool.not_true,cond_false,cond_true]
 cases decide ((pe d.Pieces d.Old).2=0) <;> simp only [cond_false,cond_true]
 cases decide ((pe d.Pieces d.Old).1=d.New) <;> rfl
theorem Check_eq (d:api_Delta):delta_Check d=some (de d):=by
 unfold delta_Check de delta_outside
 simp only [call_some,callG_some,delta_isSum_eq,CheckSteps_eq]
 cases ((decide (d.Old < 0)) || (decide (65536 < d.Old)))
 ·simp only [Bool.not_false,cond_true,Bool.false_or]
  cases ((decide (d.New < 0)) || (decide (65536 < d.New)))
  ·simp only [cond_false]
   cases isS d.OldSum <;> simp only [Bool.not_false,Bool.not_true,cond_false,cond_true,Bool.true_or,Bool.false_or,Bool.false_and,Bool.true_and]
   cases isS d.NewSum <;> simp only [Bool.not_false,Bool.not_true,cond_false,cond_true]
   by_cases h:(pe d.Pieces d.Old).2=0
   ·rw [decide_eq_true h]
    simp only [cond_true,Bool.true_and]
    cases decide ((pe d.Pieces d.Old).1=d.New) <;> simp [h]
   ·rw [decide_eq_false h]; rfl
  ·rfl
 ·rfl
theorem de_ok {d:api_Delta} (h:de d=0):0≤d.Old∧d.Old≤65536∧0≤d.New∧d.New≤65536∧isS d.OldSum=true∧isS d.NewSum=true∧d.Pieces.length≤5000∧∀ p ∈ d.Pieces,Pok d.Old p:=by
 unfold de at h
 cases h0:((((decide (d.Old < 0)) || (decide (65536 < d.Old))) || (decide (d.New < 0))) || (decide (65536 < d.New))) <;> rw [h0] at h
 rotate_left
 ·simp at h
 simp only [cond_false] at h
 cases h1:(isS d.OldSum && isS d.NewSum) <;> rw [h1] at h
 ·simp at h
 simp only [Bool.not_true,cond_false] at h
 cases h2:decide ((pe d.Pieces d.Old).2=0) <;> rw [h2] at h
 ·simp only [cond_false] at h
  simp only [decide_eq_false_iff_not] at h2
  exact absurd h h2
 ·simp only [Bool.or_eq_false_iff,decide_eq_false_iff_not] at h0
  obtain ⟨_,_,h3,h4⟩:=pe_ok (of_decide_eq_true h2)
  rw [Bool.and_eq_true] at h1
  exact ⟨by omega,by omega,by omega,by omega,h1.1,h1.2,h3,h4⟩
theorem wr_eq (o s:Str) (h:o.length+s.length≤274877906944):strings_Builder_WriteString_i1 s o=some ((s.length:Int),o++s):=by
 unfold strings_Builder_WriteString_i1 strings_Builder_copyCheck_np
 rw [call_some,chk_true (by simp; omega)]
theorem bs_eq (o:Str):strings_Builder_String_i1 o=some o:=rfl
def pm (a:Str) (p:Pc):Str:=if p.Data=[] then (a.drop p.At.toNat).take p.Long.toNat else p.Data
def made (a:Str) (l:List Pc):Str:=l.flatMap (pm a)
def pp (p:Pc):Str:=if p.Data=[] then [0]++grpS p.At++grpS p.Long else [1]++grpS (p.Data.length:Int)++p.Data
def headS (d:api_Delta):Str:=((((([79,70,68,49]++grpS d.Old)++grpS d.New)++raw8 (hv d.OldSum))++raw8 (hv d.NewSum))++grpS (d.Pieces.length:Int))
def bodyS (d:api_Delta):Str:=headS d++d.Pieces.flatMap pp
def printS (d:api_Delta):Str:=bodyS d++raw8 (hv (sumS (bodyS d)))
theorem pp_len {p:Pc} (hd:p.Data.length≤1048576):(pp p).length≤1048600:=by
 have h1:=grpS_len p.At
 have h2:=grpS_len p.Long
 have h3:=grpS_len (p.Data.length:Int)
 unfold pp
 split <;> simp <;> omega
theorem headS_len (d:api_Delta):(headS d).length≤40:=by
 have h1:=grpS_len d.Old
 have h2:=grpS_len d.New
 have h3:=grpS_len (d.Pieces.length:Int)
 unfold headS
 simp only [List.length_append,raw8_len,List.length_cons,List.length_nil]
 omega
structure Dok (d:api_Delta):Prop where
 ok:de d=0
 sm:∀ p ∈ d.Pieces,p.Data.length≤1048576
theorem Dok.pok {d:api_Delta} (h:Dok d):∀ p ∈ d.Pieces,Pok d.Old p∧p.Data.length≤1048576:=fun p hp=>⟨(de_ok h.ok).2.2.2.2.2.2.2 p hp,h.sm p hp⟩
theorem bytesOf_len (s:Str):(bytesOf s).length=s.length:=bytesOf_length s
theorem Print_ok {d:api_Delta} (h:Dok d):delta_Print d=some (printS d,0):=by
 obtain ⟨o1,o2,n1,n2,s1,s2,l1,hp⟩:=de_ok h.ok
 unfold delta_Print
 rw [Check_eq,call_some,h.ok]
 simp only [decide_true,Bool.not_true,cond_false]
 have g1:=grpS_len d.Old
 have g2:=grpS_len d.New
 have g3:=grpS_len (d.Pieces.length:Int)
 rw [chk_true (by decide),show ([79,70,68,49]:List Int)=bytesOf [79,70,68,49] from rfl]
 rw [putNumber_eq _ _ o1 (by omega) (by rw [bytesOf_len]; decide),call_some,← bytesOf_app]
 rw [putNumber_eq _ _ n1 (by omega) (by rw [bytesOf_len]; simp; omega),call_some,← bytesOf_app]
 rw [putSum_eq _ _ s1 (by rw [bytesOf_len]; simp; omega),call_some,← bytesOf_app]
 rw [putSum_eq _ _ s2 (by rw [bytesOf_len]; simp [raw8_len]; omega),call_some,← bytesOf_app]
 rw [putNumber_eq _ _ (by omega) (by omega) (by rw [bytesOf_len]; simp [raw8_len]; omega),call_some,← bytesOf_app,jp_eq]
 have hh:=headS_len d
 refine forL_run (fun _ r o=>(∀ p ∈ r,Pok d.Old p∧p.Data.length≤1048576)∧o.length+r.length * 1048600≤5243000040∧bytesOf (bodyS d)=o++bytesOf (r.flatMap pp)) (fun _ _ _=>some (printS d,0)) ?_ ?_ d.Pieces 0 _ ⟨h.pok,?_,?_⟩
 ·rintro i o ⟨_,hl,ho⟩
  simp only [List.flatMap_nil] at ho
  obtain rfl:o=bytesOf (bodyS d):=by rw [ho]; simp [bytesOf]
  dsimp only
  rw [strOf_bytes,disk_SumOf_eq,call_some,putSum_eq _ _ (isS_sumS _) (by simp at hl; omega),call_some,← bytesOf_app,strOf_bytes]
  rfl
 ·rintro i p r o nx ⟨hr,hl,ho⟩ hnx
  have hpk:=hr p (by simp)
  simp only [List.length_cons] at hl
  have hr':∀ p ∈ r,Pok d.Old p∧p.Data.length≤1048576:=fun q hq=>hr q (by simp [hq])
  rw [List.flatMap_cons,bytesOf_app,← List.append_assoc] at ho
  have g4:=grpS_len p.At
  have g5:=grpS_len p.Long
  have g6:=grpS_len (p.Data.length:Int)
  have ppl:=pp_len hpk.2
  have fin:∀ x,x=o++bytesOf (pp p)→nx x=some (printS d,0):=by
   rintro x rfl
   exact hnx _ ⟨hr',by simp only [List.length_append,bytesOf_len]; omega,ho⟩
  by_cases hd:p.Data=[]
  ·rw [decide_eq_true hd,Bool.not_true,cond_false,chk_true (by simp; omega)]
   rcases hpk.1 with hq | ⟨_,q1,q2,q3⟩
   ·exact absurd hd hq.1
   rw [putNumber_eq _ _ q1 (by omega) (by simp; omega),call_some,putNumber_eq _ _ (by omega) (by omega) (by simp only [List.length_append,bytesOf_len,List.length_cons,List.length_nil]; omega),call_some]
   apply fin
   unfold pp
   rw [if_pos hd,bytesOf_app,bytesOf_app]
   simp only [List.append_assoc]; rfl
  ·rw [decide_eq_false hd,Bool.not_false,cond_true,chk_true (by simp; omega)]
   rw [putNumber_eq _ _ (by omega) (by omega) (by simp; omega),call_some,chk_true (by simp only [List.length_append,bytesOf_len,List.length_cons,List.length_nil]; omega)]
   apply fin
   unfold pp
   rw [if_neg hd,bytesOf_app,bytesOf_app]
   simp only [List.append_assoc]; rfl
 ·rw [bytesOf_len]
  have:((((([79,70,68,49]++grpS d.Old)++grpS d.New)++raw8 (hv d.OldSum))++raw8 (hv d.NewSum))++grpS (d.Pieces.length:Int)).length=(headS d).length:=rfl
  omega
 ·rw [← bytesOf_app]; rfl
theorem PrintDelta_ok {d:api_Delta} (h:Dok d):R_PrintDelta d=some (printS d):=by
 obtain ⟨o1,o2,n1,n2,s1,s2,l1,hp⟩:=de_ok h.ok
 unfold R_PrintDelta
 have g1:=grpS_len d.Old
 have g2:=grpS_len d.New
 have g3:=grpS_len (d.Pieces.length:Int)
 have hh:=headS_len d
 rw [groups_eq _ o1 (by omega),call_some,chk_true (by simp; omega)]
 rw [groups_eq _ n1 (by omega),call_some,chk_true (by simp; omega)]
 rw [rawSum_eq _ s1,call_some,chk_true (by simp [raw8_len]; omega)]
 rw [rawSum_eq _ s2,call_some,chk_true (by simp [raw8_len]; omega)]
 rw [groups_eq _ (by omega) (by omega),call_some]
 have hw:((((([79,70,68,49]++grpS d.Old)++grpS d.New)++raw8 (hv d.OldSum))++raw8 (hv d.NewSum))++grpS (d.Pieces.length:Int))=headS d:=rfl
 rw [hw,chk_true (by omega),wr_eq _ _ (by simp; omega),call_some,List.nil_append,jp_eq]
 refine forL_run (fun _ r o=>(∀ p ∈ r,Pok d.Old p∧p.Data.length≤1048576)∧o.length+r.length * 1048600≤5243000040∧bodyS d=o++r.flatMap pp) (fun _ _ _=>some (printS d)) ?_ ?_ d.Pieces 0 _ ⟨h.pok,by simp only; omega,rfl⟩
 ·rintro i o ⟨_,hl,ho⟩
  simp only [List.flatMap_nil,List.append_nil] at ho
  subst ho
  simp only [bs_eq,call_some,R_SumOf_eq,rawSum_eq _ (isS_sumS _)]
  simp only [List.length_nil] at hl
  rw [chk_true (by rw [List.length_append,raw8_len]; omega)]
  rfl
 ·rintro i p r o nx ⟨hr,hl,ho⟩ hnx
  have hpk:=hr p (by simp)
  simp only [List.length_cons] at hl
  have hr':∀ p ∈ r,Pok d.Old p∧p.Data.length≤1048576:=fun q hq=>hr q (by simp [hq])
  rw [List.flatMap_cons,← List.append_assoc] at ho
  have g4:=grpS_len p.At
  have g5:=grpS_len p.Long
  have g6:=grpS_len (p.Data.length:Int)
  have ppl:=pp_len hpk.2
  have fin:∀ x,x=pp p→(call (strings_Builder_WriteString_i1 x o) fun r=>nx r.2)=some (printS d):=by
   rintro x rfl
   rw [wr_eq _ _ (by omega),call_some]
   exact hnx _ ⟨hr',by simp only [List.length_append]; omega,ho⟩
  by_cases hd:p.Data=[]
  ·rw [decide_eq_true hd,Bool.not_true,cond_false]
   rcases hpk.1 with hq | ⟨_,q1,q2,q3⟩
   ·exact absurd hd hq.1
   rw [groups_eq _ q1 (by omega),call_some,chk_true (by simp; omega),groups_eq _ (by omega) (by omega),call_some,chk_true (by simp; omega)]
   exact fin _ (by unfold pp; rw [if_pos hd])
  ·rw [decide_eq_false hd,Bool.not_false,cond_true]
   rw [groups_eq _ (by omega) (by omega),call_some,chk_true (by simp; omega),chk_true (by simp; omega)]
   exact fin _ (by unfold pp; rw [if_neg hd])
theorem Print_no {d:api_Delta} (h:de d ≠ 0):delta_Print d=some ([],de d):=by
 unfold delta_Print
 rw [Check_eq,call_some,decide_eq_false h]; rfl
theorem slices_refl (l:List Pc):slices_Equal_api_Piece_api_Piece l l=some true:=by
 unfold slices_Equal_api_Piece_api_Piece
 simp only [decide_true,Bool.not_true,cond_false,jp_eq]
 refine forL_run (fun i r _=>l.drop i=r) (fun _ _ _=>some true) (fun _ _ _=>rfl) ?_ l 0 () rfl
 rintro i p r ⟨⟩ nx h hnx
 have hi:i < l.length:=by
  rcases Nat.lt_or_ge i l.length with h' | h'
  ·exact h'
  ·rw [List.drop_eq_nil_of_le h'] at h; cases h
 rw [List.drop_eq_getElem_cons hi] at h
 injection h with h1 h2
 rw [idx_eq hi,h1]
 simp only [decide_true,Bool.and_self,Bool.not_true,cond_false]
 exact hnx _ h2
theorem same_refl (d:api_Delta):Law_sameDelta d d=some true:=by
 unfold Law_sameDelta
 simp only [decide_true,Bool.and_self,slices_refl,callG_some,cond_true,letv]
theorem landed_eq:Law_landed=some true:=by decide +kernel
def orI (n:Int) (c:UInt8) (i:Nat):Int:=bitsI .or .i64 n (IntKind.i64.wrap ((IntKind.i64.wrap (bitsI .and .u8 (c.toNat:Int) 127)) * 2 ^ (shI .i64 (IntKind.i64.wrap (7 * (i:Int))))))
def numS:Nat→Nat→Int→Str→Option (Int × Str)
 | 0,_,_,_=>none
 | _+1,_,_,[]=>none
 | k+1,i,n,c::r=>if c.toNat < 128 then (if 0 < i∧c.toNat=0 then none else some (orI n c i,r)) else numS k (i+1) (orI n c i) r
def num (s:Str):Option (Int × Str):=numS 5 0 0 s
def cutS (n:Int) (s:Str):Option (Str × Str):=if 0≤n∧n≤(s.length:Int) then some (s.take n.toNat,s.drop n.toNat) else none
def be (s:Str):Nat:=s.foldl (fun n c=>n * 256+c.toNat) 0
def sum8 (s:Str):Option (Str × Str):=match cutS 8 s with
 | some (b,r)=>some (hx 16 (be b),r)
 | none=>none
theorem numS_len:∀ {k i:Nat} {n m:Int} {s r:Str},numS k i n s=some (m,r)→r.length < s.length
 | k+1,i,n,m,c::s,r,h=>by
  simp only [numS] at h
  split at h
  ·split at h
   ·cases h
   ·cases h; simp
  ·have:=numS_len h
   simp only [List.length_cons]; omega
theorem num_len {m:Int} {s r:Str} (h:num s=some (m,r)):r.length < s.length:=numS_len h
theorem wrap_range (n:Int):-9223372036854775808≤IntKind.i64.wrap n∧IntKind.i64.wrap n≤9223372036854775807:=Fits.wrap .i64 n
theorem bitsI_range (a b:Int):-9223372036854775808≤bitsI .or .i64 a b∧bitsI .or .i64 a b≤9223372036854775807:=wrap_range _
theorem numS_range:∀ {k i:Nat} {n m:Int} {s r:Str},numS k i n s=some (m,r)→-9223372036854775808≤m∧m≤9223372036854775807
 | k+1,i,n,m,c::s,r,h=>by
  simp only [numS] at h
  split at h
  ·split at h
   ·cases h
   ·cases h; exact bitsI_range _ _
  ·exact numS_range h
theorem num_range {m:Int} {s r:Str} (h:num s=some (m,r)):-9223372036854775808≤m∧m≤9223372036854775807:=numS_range h
theorem cutS_len {n:Int} {s b r:Str} (h:cutS n s=some (b,r)):b.length+r.length=s.length∧(b.length:Int)=n∧s=b++r:=by
 unfold cutS at h
 split at h
 ·cases h
  simp only [List.length_take,List.length_drop,List.take_append_drop,and_true]
  omega
 ·cases h
def StepR {A:Type} (F:Str→Bool→Option (A × Str × Bool)) (S:Str→Option (A × Str)):Prop :=
 ∀ r b,∃ v r' b',F r b=some (v,r',b')∧r'.length≤r.length∧((b=false∧S r=some (v,r')∧b'=false) ∨ ((b=true ∨ S r=none)∧b'=true))
theorem takeR_eq (n:Int) (r:Str) (b:Bool):R_ParseDelta_1_i1 n r b=some (match cutS n r with | some (x,y)=>(x,y,b) | none=>([],[],true)):=by
 unfold R_ParseDelta_1_i1 cutS
 by_cases h:0≤n∧n≤(r.length:Int)
 ·rw [if_pos h,bif_f (by rw [decide_eq_false (by omega),decide_eq_false (by omega)]; rfl),chk_true h,chk_true h]
 ·rw [if_neg h,bif_t]
  by_cases h1:n < 0
  ·rw [decide_eq_true h1]; rfl
  ·rw [decide_eq_true (by omega:(r.length:Int) < n),Bool.or_true]
theorem takeR (n:Int):StepR (R_ParseDelta_1_i1 n) (cutS n):=by
 intro r b
 rw [takeR_eq]
 cases h:cutS n r with
 | none=>exact ⟨_,_,_,rfl,by simp,.inr ⟨.inr rfl,rfl⟩⟩
 | some x =>
  obtain ⟨x,y⟩:=x
  have:=cutS_len h
  cases b with
  | false=>exact ⟨_,_,_,rfl,by omega,.inl ⟨rfl,rfl,rfl⟩⟩
  | true=>exact ⟨_,_,_,rfl,by omega,.inr ⟨.inl rfl,rfl⟩⟩
theorem wrap7 (i:Nat) (h:i≤5):IntKind.i64.wrap (7 * (i:Int))=7 * (i:Int):=wrapS (by omega) (by omega)
theorem numR:StepR R_ParseDelta_2_i1 num:=by
 intro r b
 unfold R_ParseDelta_2_i1 num
 obtain ⟨N,hN⟩:∃ N,Fuel=N:=⟨_,rfl⟩
 have hF:1099511627776≤N:=hN ▸ fuel_ge
 rw [hN,jp_eq]
 suffices H:∀ (N k i:Nat) (n:Int) (r:Str),k < N→k+i=5→∃ v r' b',loopN N (fun s nx_73 k_72 =>
  match s with
  | (n_65,k_66,o1_0_67,o2_0_68) =>
   bif decide (k_66 < 5) then
    call (R_ParseDelta_1_i1 1 o1_0_67 o2_0_68) fun r_74 =>
    bif decide (r_74.1=[]) then
     some (0,r_74.2.1,r_74.2.2)
    else
    idxS r_74.1 0 fun c_75 =>
    chk (0≤(IntKind.i64.wrap (7 * k_66))) <|
    bif decide (c_75 < 128) then
     bif ((decide (0 < k_66)) && (decide (c_75=0))) then
      some (bitsI .or .i64 n_65 (IntKind.i64.wrap ((IntKind.i64.wrap (bitsI .and .u8 c_75 127)) * 2 ^ (shI .i64 (IntKind.i64.wrap (7 * k_66))))),r_74.2.1,true)
     else
     some (bitsI .or .i64 n_65 (IntKind.i64.wrap ((IntKind.i64.wrap (bitsI .and .u8 c_75 127)) * 2 ^ (shI .i64 (IntKind.i64.wrap (7 * k_66))))),r_74.2.1,r_74.2.2)
    else
    nx_73 (bitsI .or .i64 n_65 (IntKind.i64.wrap ((IntKind.i64.wrap (bitsI .and .u8 c_75 127)) * 2 ^ (shI .i64 (IntKind.i64.wrap (7 * k_66))))),IntKind.i64.wrap (k_66+1),r_74.2.1,r_74.2.2)
   else
   k_72 (n_65,k_66,o1_0_67,o2_0_68)) (n,(i:Int),r,b) (fun s=>match s with
  | (n_65,k_66,o1_0_67,o2_0_68)=>some ((0:Int),o1_0_67,true))=some (v,r',b')∧r'.length≤r.length∧((b=false∧numS k i n r=some (v,r')∧b'=false) ∨ ((b=true ∨ numS k i n r=none)∧b'=true)) from
  H N 5 0 0 r (by omega) rfl
 intro N
 induction N with
 | zero=>intro k i n r h; omega
 | succ N ih =>
  intro k i n r hk hi
  unfold loopN
  dsimp only
  cases k with
  | zero =>
   rw [bif_f (decide_eq_false (by omega))]
   exact ⟨_,_,_,rfl,Nat.le_refl _,.inr ⟨.inr rfl,rfl⟩⟩
  | succ k =>
   rw [bif_t (decide_eq_true (by omega)),takeR_eq,call_some]
   cases r with
   | nil=>exact ⟨_,_,_,rfl,Nat.le_refl _,.inr ⟨.inr rfl,rfl⟩⟩
   | cons c r =>
    have hc:cutS 1 (c::r)=some ([c],r):=by
     unfold cutS
     rw [if_pos (by simp; omega)]; rfl
    rw [hc]
    dsimp only
    rw [bif_f (by simp)]
    show ∃ v r' b',idxS [c] ((0:Nat):Int) _=_∧_
    rw [idxS_eq (by simp),chk_true (by rw [wrap7 i (by omega)]; omega)]
    simp only [List.getElem_cons_zero,numS]
    have e:bitsI .or .i64 n (IntKind.i64.wrap ((IntKind.i64.wrap (bitsI .and .u8 (c.toNat:Int) 127)) * 2 ^ (shI .i64 (IntKind.i64.wrap (7 * (i:Int))))))=orI n c i:=rfl
    rw [e]
    by_cases h1:c.toNat < 128
    ·rw [bif_t (decide_eq_true (by omega)),if_pos h1]
     by_cases h2:0 < i∧c.toNat=0
     ·rw [bif_t (by rw [decide_eq_true (by omega),decide_eq_true (by omega)]; rfl),if_pos h2]
      exact ⟨_,_,_,rfl,by simp,.inr ⟨.inr rfl,rfl⟩⟩
     ·rw [bif_f (by
       by_cases h3:0 < i
       ·rw [decide_eq_false (show ¬ (c.toNat:Int)=0 by omega),Bool.and_false]
       ·rw [decide_eq_false (show ¬ (0:Int) < (i:Int) by omega),Bool.false_and]),if_neg h2]
      cases b with
      | false=>exact ⟨_,_,_,rfl,by simp,.inl ⟨rfl,rfl,rfl⟩⟩
      | true=>exact ⟨_,_,_,rfl,by simp,.inr ⟨.inl rfl,rfl⟩⟩
    ·rw [bif_f (decide_eq_false (by omega)),if_neg h1,wrap1 i (by omega)]
     obtain ⟨v,r',b',h3,h4,h5⟩:=ih k (i+1) (orI n c i) r (by omega) (by omega)
     exact ⟨v,r',b',h3,by simp only [List.length_cons]; omega,h5⟩
theorem be_lt:∀ (l:Str) (n:Nat),l.foldl (fun n c=>n * 256+c.toNat) n < (n+1) * 256 ^ l.length
 | [],n=>by simp
 | c::l,n=>by
  have ih:=be_lt l (n * 256+c.toNat)
  have hc:=c.toNat_lt
  simp only [List.foldl_cons,List.length_cons,Nat.pow_succ]
  refine Nat.lt_of_lt_of_le ih ?_
  rw [← Nat.mul_assoc,Nat.mul_right_comm]
  exact Nat.mul_le_mul_right _ (by omega)
theorem orU (n:Nat) (c:UInt8) (h:n < 72057594037927936):bitsI .or .u64 (IntKind.u64.wrap ((n:Int) * 2 ^ (shI .u64 8))) (IntKind.u64.wrap (c.toNat:Int))=((n * 256+c.toNat:Nat):Int):=by
 have hc:c.toNat < 256:=c.toNat_lt
 have hs:shI .u64 8=8:=by decide
 rw [hs,show (n:Int) * 2 ^ 8=((n * 256:Nat):Int) by omega,wrapU _ (by omega),wrapU _ (by omega)]
 show IntKind.u64.wrap (((BitVec.ofInt 64 ((n * 256:Nat):Int) ||| BitVec.ofInt 64 (c.toNat:Int)).toNat:Nat):Int)=_
 rw [BitVec.toNat_or,BitVec.toNat_ofInt,BitVec.toNat_ofInt]
 have e1:(((n * 256:Nat):Int) % ((2 ^ 64:Nat):Int)).toNat=n * 256:=by omega
 have e2:((c.toNat:Int) % ((2 ^ 64:Nat):Int)).toNat=c.toNat:=by omega
 have e3:n * 256 ||| c.toNat=n * 256+c.toNat:=by
  have:=Nat.two_pow_add_eq_or_of_lt (i:=8) (b:=c.toNat) (by omega) n
  rw [show n * 256=2 ^ 8 * n by omega,← this]
 rw [e1,e2,e3]
 exact wrapU _ (by omega)
theorem hexR_any (l:Str) (hl:l.length≤8):∀ {Z:Type} (k:Int→Option Z),forL l 0 (fun i_44 c_46 n_39 nx_43 k_42 =>
  nx_43 (bitsI .or .u64 (IntKind.u64.wrap (n_39 * 2 ^ (shI .u64 8))) (IntKind.u64.wrap ((UInt8.toNat c_46:Nat):Int)))) 0 k=k ((be l:Nat):Int):=by
 intro Z k
 refine forL_run (fun _ r (n:Int)=>∃ m:Nat,n=m∧m < 256 ^ (8 - r.length)∧r.length≤8∧be l=r.foldl (fun n c=>n * 256+c.toNat) m) (fun _ _ _=>k ((be l:Nat):Int)) ?_ ?_ l 0 0 ⟨0,rfl,Nat.pow_pos (by decide),hl,rfl⟩
 ·rintro i n ⟨m,rfl,_,_,h⟩
  rw [h]; rfl
 ·rintro i c r n nx ⟨m,rfl,h1,h2,h3⟩ hnx
  simp only [List.length_cons] at h1 h2
  have h4:256 ^ (8 - (r.length+1))≤256 ^ 7:=Nat.pow_le_pow_right (by decide) (by omega)
  have hc:c.toNat < 256:=c.toNat_lt
  rw [orU m c (by omega)]
  refine hnx _ ⟨_,rfl,?_,by omega,h3⟩
  have:256 ^ (8 - r.length)=256 ^ (8 - (r.length+1)) * 256:=by rw [← Nat.pow_succ]; congr 1; omega
  omega
theorem hex_tail (n:Nat) (h:n < 18446744073709551616) (r:Str) (b:Bool):(call (strconv_FormatUint (n:Int) 16) fun r_36 =>
  call (strings_Repeat ([48]:Str) (IntKind.i64.wrap (16 - (r_36.length:Int)))) fun r_37 =>
  chk ((r_37++r_36).length≤274877906944) <|
  some (r_37++r_36,r,b))=some (hx 16 n,r,b):=by
 have hl:=fm_len 15 n
 rw [FormatUint16 n h,call_some]
 rw [show IntKind.i64.wrap (16 - ((fm 15 n).length:Int))=((16 - (fm 15 n).length:Nat):Int) by rw [wrapS (by omega) (by omega)]; omega]
 have:=repeat0 ⟨16 - (fm 15 n).length,by omega⟩
 simp only at this
 rw [this,call_some,chk_true (by simp; omega),fm_pad 15 n (by omega)]
theorem be8 (l:Str) (h:l.length≤8):be l < 18446744073709551616:=by
 have h1:=be_lt l 0
 have h2:256 ^ l.length≤256 ^ 8:=Nat.pow_le_pow_right (by decide) h
 unfold be
 omega
theorem sumR:StepR R_ParseDelta_3_i1 sum8:=by
 intro r b
 unfold R_ParseDelta_3_i1 sum8
 rw [takeR_eq,call_some,jp_eq]
 cases h:cutS 8 r with
 | none =>
  dsimp only
  rw [hexR_any [] (by simp)]
  have:=hex_tail 0 (by omega) [] true
  exact ⟨_,_,_,this,by simp,.inr ⟨.inr rfl,rfl⟩⟩
 | some x =>
  obtain ⟨x,y⟩:=x
  have hl:=cutS_len h
  dsimp only
  rw [hexR_any x (by omega)]
  have:=hex_tail (be x) (be8 x (by omega)) y b
  cases b with
  | false=>exact ⟨_,_,_,this,by omega,.inl ⟨rfl,rfl,rfl⟩⟩
  | true=>exact ⟨_,_,_,this,by omega,.inr ⟨.inl rfl,rfl⟩⟩
def StepD {A:Type} (s:Str) (F:Int→Bool→Option (A × Int × Bool)) (S:Str→Option (A × Str)):Prop :=
 ∀ (i:Nat) b,i≤s.length→∃ v j b',F (i:Int) b=some (v,((j:Nat):Int),b')∧i≤j∧j≤s.length∧((b=false∧S (s.drop i)=some (v,s.drop j)∧b'=false) ∨ ((b=true ∨ S (s.drop i)=none)∧b'=true))
theorem takeD_eq (n:Int) (s:Str) (i:Nat) (b:Bool) (hi:i≤s.length) (hs:s.length≤2097152):delta_reader_take_i1 n s (i:Int) b=some (match cutS n (s.drop i) with | some (x,_)=>(x,b,((i+n.toNat:Nat):Int)) | none=>([],true,(i:Int))):=by
 unfold delta_reader_take_i1 cutS
 have e1:IntKind.i64.wrap ((s.length:Int) - (i:Int))=((s.length - i:Nat):Int):=by rw [wrapS (by omega) (by omega)]; omega
 rw [e1,List.length_drop]
 by_cases h:0≤n∧n≤((s.length - i:Nat):Int)
 ·rw [if_pos h,bif_f (by rw [decide_eq_false (by omega),decide_eq_false (by omega)]; rfl)]
  have e2:IntKind.i64.wrap ((i:Int)+n)=((i+n.toNat:Nat):Int):=by rw [wrapS (by omega) (by omega)]; omega
  have e3:IntKind.i64.wrap (((i+n.toNat:Nat):Int) - n)=(i:Int):=by rw [wrapS (by omega) (by omega)]; omega
  rw [e2,e3,chk_true (by omega)]
  simp only [Int.toNat_natCast,Nat.add_sub_cancel_left]
 ·rw [if_neg h,bif_t]
  by_cases h1:n < 0
  ·rw [decide_eq_true h1]; rfl
  ·rw [decide_eq_true (by omega:((s.length - i:Nat):Int) < n),Bool.or_true]
theorem cut1 (s:Str):cutS 1 s=match s with | []=>none | c::r=>some ([c],r):=by
 unfold cutS
 cases s with
 | nil=>rfl
 | cons c r=>rw [if_pos (by simp; omega)]; rfl
theorem drop_cons {s r:Str} {c:UInt8} {i:Nat} (h:s.drop i=c::r):i < s.length∧s.drop (i+1)=r:=by
 have hl:=congrArg List.length h
 simp only [List.length_drop,List.length_cons] at hl
 refine ⟨by omega,?_⟩
 rw [← List.drop_drop,h]; rfl
theorem numD (s:Str) (hs:s.length≤2097152):StepD s (fun i b=>delta_reader_number_i1 s i b) num:=by
 intro i b hi
 show ∃ v j b',delta_reader_number_i1 s (i:Int) b=_∧_
 unfold delta_reader_number_i1 num
 obtain ⟨N,hN⟩:∃ N,Fuel=N:=⟨_,rfl⟩
 have hF:1099511627776≤N:=hN ▸ fuel_ge
 rw [hN,jp_eq]
 suffices H:∀ (N k t:Nat) (n:Int) (i:Nat),i≤s.length→k < N→k+t=5→∃ (v:Int) (j:Nat) (b':Bool),loopN N (fun s_1 nx_74 k_73 =>
  match s_1 with
  | (n_66,t6_67,o0_1_68,o0_2_69) =>
   bif decide (t6_67 < 5) then
    call (delta_reader_take_i1 1 s o0_1_68 o0_2_69) fun r_75 =>
    bif r_75.2.1 then
     some (0,r_75.2.2,r_75.2.1)
    else
    idxS r_75.1 0 fun c_76 =>
    chk (0≤(IntKind.i64.wrap (7 * t6_67))) <|
    bif decide (c_76 < 128) then
     some (bitsI .or .i64 n_66 (IntKind.i64.wrap ((IntKind.i64.wrap (bitsI .and .u8 c_76 127)) * 2 ^ (shI .i64 (IntKind.i64.wrap (7 * t6_67))))),r_75.2.2,(r_75.2.1 || ((decide (0 < t6_67)) && (decide (c_76=0)))))
    else
    nx_74 (bitsI .or .i64 n_66 (IntKind.i64.wrap ((IntKind.i64.wrap (bitsI .and .u8 c_76 127)) * 2 ^ (shI .i64 (IntKind.i64.wrap (7 * t6_67))))),IntKind.i64.wrap (t6_67+1),r_75.2.2,r_75.2.1)
   else
   k_73 (n_66,t6_67,o0_1_68,o0_2_69)) (n,(t:Int),(i:Int),b) (fun s=>match s with
  | (n_66,t6_67,o0_1_68,o0_2_69)=>some ((0:Int),o0_1_68,true))=some (v,((j:Nat):Int),b')∧i≤j∧j≤s.length∧((b=false∧numS k t n (s.drop i)=some (v,s.drop j)∧b'=false) ∨ ((b=true ∨ numS k t n (s.drop i)=none)∧b'=true)) from
  H N 5 0 0 i hi (by omega) rfl
 intro N
 induction N with
 | zero=>intro k t n i _ h; omega
 | succ N ih =>
  intro k t n i hi hk ht
  unfold loopN
  dsimp only
  cases k with
  | zero =>
   rw [bif_f (decide_eq_false (by omega))]
   exact ⟨_,_,_,rfl,Nat.le_refl _,hi,.inr ⟨.inr rfl,rfl⟩⟩
  | succ k =>
   rw [bif_t (decide_eq_true (by omega)),takeD_eq 1 s i b hi hs,call_some,cut1]
   cases hd:s.drop i with
   | nil=>exact ⟨_,_,_,rfl,Nat.le_refl _,hi,.inr ⟨.inr rfl,rfl⟩⟩
   | cons c r =>
    obtain ⟨hi',hd'⟩:=drop_cons hd
    dsimp only
    cases b with
    | true =>
     rw [cond_true]
     exact ⟨_,i+1,_,rfl,by omega,by omega,.inr ⟨.inl rfl,rfl⟩⟩
    | false =>
     rw [cond_false]
     show ∃ v j b',idxS [c] ((0:Nat):Int) _=_∧_
     rw [idxS_eq (by simp),chk_true (by rw [wrap7 t (by omega)]; omega)]
     simp only [List.getElem_cons_zero,numS]
     have e:bitsI .or .i64 n (IntKind.i64.wrap ((IntKind.i64.wrap (bitsI .and .u8 (c.toNat:Int) 127)) * 2 ^ (shI .i64 (IntKind.i64.wrap (7 * (t:Int))))))=orI n c t:=rfl
     rw [e]
     by_cases h1:c.toNat < 128
     ·rw [bif_t (decide_eq_true (by omega)),if_pos h1]
      by_cases h2:0 < t∧c.toNat=0
      ·rw [if_pos h2,decide_eq_true (by omega:(0:Int) < (t:Int)),decide_eq_true (by omega:(c.toNat:Int)=0)]
       exact ⟨_,i+1,_,rfl,by omega,by omega,.inr ⟨.inr rfl,rfl⟩⟩
      ·rw [if_neg h2]
       have:(decide ((0:Int) < (t:Int)) && decide ((c.toNat:Int)=0))=false:=by
        by_cases h3:0 < t
        ·rw [decide_eq_false (show ¬ (c.toNat:Int)=0 by omega),Bool.and_false]
        ·rw [decide_eq_false (show ¬ (0:Int) < (t:Int) by omega),Bool.false_and]
       rw [this]
       exact ⟨_,i+1,_,rfl,by omega,by omega,.inl ⟨trivial,by rw [hd'],rfl⟩⟩
     ·rw [bif_f (decide_eq_false (by omega)),if_neg h1,wrap1 t (by omega)]
      obtain ⟨v,j,b',h3,h4,h5,h6⟩:=ih k (t+1) (orI n c t) (i+1) (by omega) (by omega) (by omega)
      rw [hd'] at h6
      refine ⟨v,j,b',h3,by omega,h5,?_⟩
      rcases h6 with ⟨_,h7,h8⟩ | ⟨h7 | h7,h8⟩
      ·exact .inl ⟨trivial,h7,h8⟩
      ·cases h7
      ·exact .inr ⟨.inr h7,h8⟩
theorem hx_bytes:∀ (l:Str) (k n:Nat),hx (k+2 * l.length) (l.foldl (fun n c=>n * 256+c.toNat) n)=hx k n++l.flatMap fun c=>[dg (c.toNat / 16),dg (c.toNat % 16)]
 | [],k,n=>by simp
 | c::l,k,n=>by
  have ih:=hx_bytes l (k+2) (n * 256+c.toNat)
  have hc:c.toNat < 256:=c.toNat_lt
  rw [List.foldl_cons,List.length_cons,show k+2 * (l.length+1)=k+2+2 * l.length by omega,ih]
  simp only [hx,List.flatMap_cons]
  rw [show (n * 256+c.toNat) / 16 / 16=n by omega,show (n * 256+c.toNat) / 16 % 16=c.toNat / 16 by omega,show (n * 256+c.toNat) % 16=c.toNat % 16 by omega]
  simp only [List.append_assoc,List.cons_append,List.nil_append]
theorem hi4 (c:UInt8):Int.fdiv (c.toNat:Int) (2 ^ (shI .u8 4))=((c.toNat / 16:Nat):Int):=shr_eq c.toNat 4 .u8 (by decide)
theorem lo4:∀ c:UInt8,bitsI .and .u8 (c.toNat:Int) 15=((c.toNat % 16:Nat):Int):=u8all (by decide +kernel)
theorem sumD_any (x:Str) (hx:x.length≤8) {Z:Type} (k:List Int→Option Z):forC x.length 0 (fun i_97 o2_89 nx_96 k_95 =>
  idxS ([48,49,50,51,52,53,54,55,56,57,97,98,99,100,101,102]:Str) (Int.fdiv ((bytesOf x).getD i_97 0) (2 ^ (shI .u8 4))) fun c_101 =>
  idxS ([48,49,50,51,52,53,54,55,56,57,97,98,99,100,101,102]:Str) (bitsI .and .u8 ((bytesOf x).getD i_97 0) 15) fun c_102 =>
  chk ((o2_89++[c_101,c_102]).length≤274877906944) <|
  nx_96 (o2_89++[c_101,c_102])) [] k=k (bytesOf (x.flatMap fun c=>[dg (c.toNat / 16),dg (c.toNat % 16)])):=by
 refine forC_run x.length (fun i o=>i≤x.length∧o=bytesOf ((x.take i).flatMap fun c=>[dg (c.toNat / 16),dg (c.toNat % 16)])) (fun _ _=>k (bytesOf (x.flatMap fun c=>[dg (c.toNat / 16),dg (c.toNat % 16)]))) ?_ ?_ x.length 0 _ rfl ⟨by omega,rfl⟩
 ·rintro o ⟨_,rfl⟩
  rw [List.take_length]
 ·rintro i o nx hi ⟨_,rfl⟩ hnx
  have hc:(x[i]).toNat < 256:=(x[i]).toNat_lt
  rw [bytesOf_getD x i hi,hi4,lo4]
  show idxS HXs _ _=_
  rw [idx_hx _ (by omega)]
  show idxS HXs _ _=_
  rw [idx_hx _ (Nat.mod_lt _ (by decide))]
  have e:bytesOf ((x.take i).flatMap fun c=>[dg (c.toNat / 16),dg (c.toNat % 16)])++[((dg (x[i].toNat / 16)).toNat:Int),((dg (x[i].toNat % 16)).toNat:Int)]=bytesOf ((x.take (i+1)).flatMap fun c=>[dg (c.toNat / 16),dg (c.toNat % 16)]):=by
   rw [List.take_succ_eq_append_getElem hi,List.flatMap_append,bytesOf_app]
   rfl
  rw [e,chk_true]
  ·exact hnx _ ⟨by omega,rfl⟩
  ·rw [bytesOf_length]
   have:∀ l:Str,(l.flatMap fun c=>[dg (c.toNat / 16),dg (c.toNat % 16)]).length=2 * l.length:=by
    intro l
    induction l with
    | nil=>rfl
    | cons c l ih=>rw [List.flatMap_cons,List.length_append,ih,List.length_cons]; simp; omega
   rw [this,List.length_take]; omega
theorem sumD (s:Str) (hs:s.length≤2097152):StepD s (fun i b=>delta_reader_sum_i1 s i b) sum8:=by
 intro i b hi
 show ∃ v j b',delta_reader_sum_i1 s (i:Int) b=_∧_
 unfold delta_reader_sum_i1 sum8
 rw [jp_eq,takeD_eq 8 s i b hi hs,call_some]
 cases h:cutS 8 (s.drop i) with
 | none =>
  dsimp only
  rw [sumD_any [] (by simp)]
  exact ⟨_,i,_,rfl,Nat.le_refl _,hi,.inr ⟨.inr rfl,rfl⟩⟩
 | some x =>
  obtain ⟨x,y⟩:=x
  obtain ⟨hl,hx8,hsp⟩:=cutS_len h
  rw [List.length_drop] at hl
  dsimp only
  rw [sumD_any x (by omega)]
  have hb:hx 16 (be x)=x.flatMap fun c=>[dg (c.toNat / 16),dg (c.toNat % 16)]:=by
   have:=hx_bytes x 0 0
   rw [show 0+2 * x.length=16 by omega] at this
   exact this
  have hy:y=s.drop (i+Int.toNat 8):=by
   unfold cutS at h
   split at h
   ·cases h; rw [List.drop_drop]
   ·cases h
  rw [strOf_bytes,← hb,hy]
  have h8:Int.toNat 8=8:=rfl
  cases b with
  | false=>exact ⟨_,i+8,_,rfl,by omega,by omega,.inl ⟨rfl,rfl,rfl⟩⟩
  | true=>exact ⟨_,i+8,_,rfl,by omega,by omega,.inr ⟨.inl rfl,rfl⟩⟩
def pc1:Str→Option (Pc × Str)
 | []=>none
 | c::r=>if c=0 then (num r).bind fun a=>(num a.2).bind fun l=>some (⟨a.1,l.1,[]⟩,l.2)
  else if c=1 then (num r).bind fun m=>(cutS m.1 m.2).bind fun x=>if x.1=[] then none else some (⟨0,0,x.1⟩,x.2)
  else none
def pcs:Nat→Str→Option (List Pc × Str)
 | 0,s=>some ([],s)
 | k+1,s=>(pc1 s).bind fun p=>(pcs k p.2).bind fun l=>some (p.1::l.1,l.2)
def fullS (s:Str):Option (api_Delta × Str × Str) :=
 (cutS 4 s).bind fun x=>if x.1=([79,70,68,49]:Str) then (num x.2).bind fun a=>(num a.2).bind fun b=>(sum8 b.2).bind fun c=>(sum8 c.2).bind fun e=>(num e.2).bind fun k =>
  (pcs k.1.toNat k.2).bind fun l=>(sum8 l.2).bind fun m=>if m.2=[] then some (⟨a.1,b.1,c.1,e.1,l.1⟩,s.take (s.length - l.2.length),m.1) else none else none
def zD:api_Delta:=⟨0,0,[],[],[]⟩
def parseS (s:Str):api_Delta × Int:=if 2097152 < s.length then (zD,4) else match fullS s with
 | none=>(zD,8)
 | some (d,body,sm)=>if sm ≠ sumS body then (zD,14) else if de d ≠ 0 then (zD,de d) else (d,0)
theorem pc1_len {s r:Str} {p:Pc} (h:pc1 s=some (p,r)):r.length < s.length:=by
 cases s with
 | nil=>cases h
 | cons c s =>
  simp only [pc1] at h
  simp only [List.length_cons]
  split at h
  ·obtain ⟨a,h1,h⟩:=Option.bind_eq_some_iff.1 h
   obtain ⟨l,h2,h⟩:=Option.bind_eq_some_iff.1 h
   cases h
   have:=num_len h1
   have:=num_len h2
   omega
  ·split at h
   ·obtain ⟨a,h1,h⟩:=Option.bind_eq_some_iff.1 h
    obtain ⟨l,h2,h⟩:=Option.bind_eq_some_iff.1 h
    split at h
    ·cases h
    ·cases h
     have:=num_len h1
     have:=(cutS_len h2).1
     omega
   ·cases h
theorem sticky {b b':Bool} {P Q:Prop} (h:(b=false∧P∧b'=false) ∨ (Q∧b'=true)) (hb:b=true):b'=true:=by
 rcases h with ⟨h,_⟩ | ⟨_,h⟩
 ·rw [hb] at h; cases h
 ·exact h
theorem good {b b':Bool} {P Q:Prop} (h:(b=false∧P∧b'=false) ∨ (Q∧b'=true)) (hb:b'=false):b=false∧P:=by
 rcases h with ⟨h,h1,_⟩ | ⟨_,h⟩
 ·exact ⟨h,h1⟩
 ·rw [hb] at h; cases h
theorem fall {b':Bool} {P Q:Prop} {x:Prop} (h:(x∧P∧b'=false) ∨ (Q∧b'=true)) (hb:b'=true):Q:=by
 rcases h with ⟨_,_,h⟩ | ⟨h,_⟩
 ·rw [hb] at h; cases h
 ·exact h
theorem pieceD (s:Str) (hs:s.length≤2097152):StepD s (fun i b=>delta_reader_piece_i1 s i b) pc1:=by
 intro i b hi
 show ∃ v j b',delta_reader_piece_i1 s (i:Int) b=_∧_
 unfold delta_reader_piece_i1
 rw [takeD_eq 1 s i b hi hs,call_some,cut1]
 cases hd:s.drop i with
 | nil=>exact ⟨_,i,_,rfl,Nat.le_refl _,hi,.inr ⟨.inr rfl,rfl⟩⟩
 | cons c r =>
  obtain ⟨hi',hd'⟩:=drop_cons hd
  dsimp only
  cases b with
  | true =>
   rw [cond_true]
   exact ⟨_,i+1,_,rfl,by omega,by omega,.inr ⟨.inl rfl,rfl⟩⟩
  | false =>
   rw [cond_false]
   show ∃ v j b',idxS [c] ((0:Nat):Int) _=_∧_
   rw [idxS_eq (by simp)]
   have e0:([c]:Str)[0]=c:=rfl
   rw [e0]
   have e1:i+Int.toNat 1=i+1:=rfl
   rw [e1]
   obtain ⟨a,j1,b1,h1,l1,m1,q1⟩:=numD s hs (i+1) false (by omega)
   rw [hd'] at q1
   dsimp only at h1
   have hcA:∀ c:UInt8,decide ((c.toNat:Int)=0)=decide (c=0):=u8all (by decide +kernel)
   have hcB:∀ c:UInt8,decide ((c.toNat:Int)=1)=decide (c=1):=u8all (by decide +kernel)
   rw [hcA]
   simp only [pc1]
   by_cases hc:c=0
   ·rw [if_pos hc,decide_eq_true hc,cond_true]
    rw [h1,call_some]
    obtain ⟨l,j2,b2,h2,l2,m2,q2⟩:=numD s hs j1 b1 (by omega)
    dsimp only at h2
    rw [h2,call_some]
    refine ⟨_,j2,b2,rfl,by omega,m2,?_⟩
    cases b2 with
    | false =>
     obtain ⟨g1,g2⟩:=good q2 rfl
     obtain ⟨g3,g4⟩:=good q1 g1
     refine .inl ⟨trivial,?_,rfl⟩
     rw [g4,Option.bind_some,g2,Option.bind_some]
    | true =>
     refine .inr ⟨.inr ?_,rfl⟩
     cases b1 with
     | true =>
      rcases fall q1 rfl with h | h
      ·cases h
      ·rw [h]; rfl
     | false =>
      rcases fall q2 rfl with h | h
      ·cases h
      ·rw [(good q1 rfl).2,Option.bind_some,h]; rfl
   ·rw [if_neg hc,decide_eq_false hc,cond_false,hcB]
    by_cases hc1:c=1
    ·rw [if_pos hc1,decide_eq_true hc1,cond_true,h1,call_some]
     rw [takeD_eq a s j1 b1 m1 hs,call_some]
     cases hx:cutS a (s.drop j1) with
     | none =>
      refine ⟨_,j1,_,rfl,by omega,m1,.inr ⟨.inr ?_,rfl⟩⟩
      cases b1 with
      | true =>
       rcases fall q1 rfl with h | h
       ·cases h
       ·rw [h]; rfl
      | false=>rw [(good q1 rfl).2,Option.bind_some,hx]; rfl
     | some x =>
      obtain ⟨x,y⟩:=x
      obtain ⟨hl,hx8,hsp⟩:=cutS_len hx
      rw [List.length_drop] at hl
      have hy:y=s.drop (j1+a.toNat):=by
       unfold cutS at hx
       split at hx
       ·cases hx; rw [List.drop_drop]
       ·cases hx
      refine ⟨_,j1+a.toNat,_,rfl,by omega,by omega,?_⟩
      cases b1 with
      | true =>
       refine .inr ⟨.inr ?_,by simp⟩
       rcases fall q1 rfl with h | h
       ·cases h
       ·rw [h]; rfl
      | false =>
       rw [(good q1 rfl).2,Option.bind_some,hx,Option.bind_some]
       by_cases he:x=[]
       ·refine .inr ⟨.inr (by rw [if_pos he]),by rw [decide_eq_true he]; rfl⟩
       ·refine .inl ⟨trivial,by rw [if_neg he,hy],by rw [decide_eq_false he]; rfl⟩
    ·rw [if_neg hc1,decide_eq_false hc1,cond_false]
     exact ⟨_,i+1,_,rfl,by omega,by omega,.inr ⟨.inr rfl,rfl⟩⟩
theorem piecesD {Z:Type} (s:Str) (hs:s.length≤2097152) (n:Int) (k:Int × Bool × List Pc→Option Z):∀ (N i:Nat) (b:Bool) (o:List Pc),i≤s.length→o.length≤i→(if b=true then 1 else s.length - i+2)≤N →
  ∃ (j:Nat) (b':Bool) (o':List Pc),loopN N (fun (s_1:Int × Int × Bool × List Pc) nx_47 k_46 =>
  match s_1 with
  | (t33_40,o1_1_41,o1_2_42,o3_43) =>
   bif decide (t33_40 < n) then
    bif o1_2_42 then
     k_46 (t33_40,o1_1_41,o1_2_42,o3_43)
    else
    call (delta_reader_piece_i1 s o1_1_41 o1_2_42) fun r_48 =>
    chk ((o3_43++[r_48.1]).length≤274877906944) <|
    nx_47 (IntKind.i64.wrap (t33_40+1),r_48.2.1,r_48.2.2,o3_43++[r_48.1])
   else
   k_46 (t33_40,o1_1_41,o1_2_42,o3_43)) ((o.length:Int),(i:Int),b,o) (fun s=>match s with
  | (t33_40,o1_1_41,o1_2_42,o3_43)=>k (o1_1_41,o1_2_42,o3_43))=k (((j:Nat):Int),b',o')∧j≤s.length ∧
   ((b=false∧(∃ l,pcs (n - o.length).toNat (s.drop i)=some (l,s.drop j)∧o'=o++l)∧b'=false) ∨ ((b=true ∨ pcs (n - o.length).toNat (s.drop i)=none)∧b'=true)):=by
 intro N
 induction N with
 | zero=>intro i b o _ _ h; split at h <;> omega
 | succ N ih =>
  intro i b o hi ho hN
  unfold loopN
  dsimp only
  by_cases hlt:(o.length:Int) < n
  ·rw [decide_eq_true hlt,cond_true]
   obtain ⟨m,hm⟩:∃ m,(n - (o.length:Int)).toNat=m+1:=⟨(n - (o.length:Int)).toNat - 1,by omega⟩
   rw [hm]
   cases b with
   | true=>exact ⟨i,true,o,rfl,hi,.inr ⟨.inl rfl,rfl⟩⟩
   | false =>
    rw [cond_false]
    obtain ⟨p,j,b',h1,h2,h3,h4⟩:=pieceD s hs i false hi
    dsimp only at h1
    rw [h1,call_some,chk_true (by simp; omega),wrap1 _ (by omega)]
    have hl:(o++[p]).length=o.length+1:=by simp
    have hj:b'=false→i+1≤j:=by
     rintro rfl
     obtain ⟨_,g⟩:=good h4 rfl
     have:=pc1_len g
     simp only [List.length_drop] at this
     omega
    rw [if_neg (by simp)] at hN
    cases b' with
    | true =>
     -- the next round leaves,or the number is reached
     have hnone:pc1 (s.drop i)=none:=by
      rcases fall h4 rfl with h | h
      ·cases h
      ·exact h
     refine ⟨j,true,o++[p],?_,h3,.inr ⟨.inr (by simp only [pcs,hnone,Option.bind_none]),rfl⟩⟩
     obtain ⟨N',rfl⟩:∃ N',N=N'+1:=⟨N - 1,by omega⟩
     unfold loopN
     dsimp only
     rw [cond_true]
     cases decide (((o.length+1:Nat):Int) < n) <;> rfl
    | false =>
     obtain ⟨_,g⟩:=good h4 rfl
     have hj':=hj rfl
     obtain ⟨j',b'',o',i1,i2,i3⟩:=ih j false (o++[p]) h3 (by rw [hl]; omega) (by rw [if_neg (by simp)]; omega)
     rw [hl] at i1 i3
     rw [show (n - ((o.length+1:Nat):Int)).toNat=m by omega] at i3
     refine ⟨j',b'',o',i1,i2,?_⟩
     simp only [pcs,g,Option.bind_some]
     rcases i3 with ⟨_,⟨l,i4,i5⟩,i6⟩ | ⟨i4 | i4,i5⟩
     ·exact .inl ⟨trivial,⟨p::l,by rw [i4,Option.bind_some],by rw [i5,List.append_assoc]; rfl⟩,i6⟩
     ·cases i4
     ·exact .inr ⟨.inr (by rw [i4]; rfl),i5⟩
  ·rw [decide_eq_false hlt,cond_false,show (n - (o.length:Int)).toNat=0 by omega]
   refine ⟨i,b,o,rfl,hi,?_⟩
   cases b with
   | false=>exact .inl ⟨rfl,⟨[],rfl,by simp⟩,rfl⟩
   | true=>exact .inr ⟨.inl rfl,rfl⟩
theorem delta_Parse_eq (s:Str):delta_Parse s=some (parseS s):=by
 unfold delta_Parse parseS
 by_cases hs:2097152 < s.length
 ·rw [decide_eq_true (by omega),if_pos hs]; rfl
 rw [decide_eq_false (by omega),if_neg hs,cond_false]
 replace hs:s.length≤2097152:=by omega
 have ht:=takeD_eq 4 s 0 false (by omega) hs
 rw [Int.natCast_zero,List.drop_zero] at ht
 rw [ht,call_some]
 clear ht
 unfold fullS
 cases h4:cutS 4 s with
 | none=>rfl
 | some x =>
  obtain ⟨x,r0⟩:=x
  rw [Option.bind_some]
  dsimp only
  by_cases hm:x=([79,70,68,49]:Str)
  rotate_left
  ·rw [decide_eq_false hm,if_neg hm]; rfl
  rw [decide_eq_true hm,if_pos hm,Bool.not_true,cond_false]
  have hr0:r0=s.drop 4∧4≤s.length:=by
   have:=(cutS_len h4)
   unfold cutS at h4
   split at h4
   ·cases h4; exact ⟨rfl,by omega⟩
   ·cases h4
  obtain ⟨rfl,hl4⟩:=hr0
  rw [show ((0+Int.toNat 4:Nat):Int)=((4:Nat):Int) from rfl]
  obtain ⟨v1,j1,b1,e1,-,l1,q1⟩:=numD s hs 4 false hl4
  obtain ⟨v2,j2,b2,e2,-,l2,q2⟩:=numD s hs j1 b1 l1
  obtain ⟨v3,j3,b3,e3,-,l3,q3⟩:=sumD s hs j2 b2 l2
  obtain ⟨v4,j4,b4,e4,-,l4,q4⟩:=sumD s hs j3 b3 l3
  obtain ⟨v5,j5,b5,e5,-,l5,q5⟩:=numD s hs j4 b4 l4
  dsimp only at e1 e2 e3 e4 e5
  rw [e1,call_some,e2,call_some,e3,call_some,e4,call_some,jp_eq,e5,call_some]
  obtain ⟨N,hN⟩:∃ N,Fuel=N:=⟨_,rfl⟩
  have hF:1099511627776≤N:=hN ▸ fuel_ge
  rw [hN]
  obtain ⟨j6,b6,o6,e6,l6,q6⟩:=piecesD s hs v5 (fun (s_1:Int × Bool × List Pc)=>match s_1 with
  | (o1_1_25,o1_2_26,o3_27) =>
   call (delta_reader_sum_i1 s o1_1_25 o1_2_26) fun r_29 =>
   bif (r_29.2.2 || (decide (r_29.2.1 < (s.length:Int)))) then
    some ((api_Delta.mk 0 0 [] [] []),8)
   else
   chk (0≤o1_1_25∧o1_1_25≤(s.length:Int)) <|
   call (disk_SumOf (List.take o1_1_25.toNat s)) fun r_31 =>
   bif !decide (r_29.1=r_31) then
    some ((api_Delta.mk 0 0 [] [] []),14)
   else
   call (delta_Check (api_Delta.mk v1 v2 v3 v4 o3_27)) fun r_32 =>
   bif !decide (r_32=0) then
    some ((api_Delta.mk 0 0 [] [] []),r_32)
   else
   some ((api_Delta.mk v1 v2 v3 v4 o3_27),0)) N j5 b5 [] l5 (by simp) (by split <;> omega)
  refine Eq.trans e6 ?_
  dsimp only
  obtain ⟨v7,j7,b7,e7,-,l7,q7⟩:=sumD s hs j6 b6 l6
  dsimp only at e7
  rw [e7,call_some]
  simp only [List.length_nil,Int.natCast_zero,Int.sub_zero,List.nil_append] at q6
  have key:(b7=true∧((num (s.drop 4)).bind fun a=>(num a.2).bind fun b=>(sum8 b.2).bind fun c=>(sum8 c.2).bind fun e=>(num e.2).bind fun k =>
    (pcs k.1.toNat k.2).bind fun l=>(sum8 l.2).bind fun m=>if m.2=[] then some ((⟨a.1,b.1,c.1,e.1,l.1⟩:api_Delta),s.take (s.length - l.2.length),m.1) else none)=none) ∨
    (b7=false∧((num (s.drop 4)).bind fun a=>(num a.2).bind fun b=>(sum8 b.2).bind fun c=>(sum8 c.2).bind fun e=>(num e.2).bind fun k =>
    (pcs k.1.toNat k.2).bind fun l=>(sum8 l.2).bind fun m=>if m.2=[] then some ((⟨a.1,b.1,c.1,e.1,l.1⟩:api_Delta),s.take (s.length - l.2.length),m.1) else none)=if s.drop j7=[] then some ((⟨v1,v2,v3,v4,o6⟩:api_Delta),s.take (s.length - (s.drop j6).length),v7) else none):=by
   rcases q1 with ⟨-,g1,rfl⟩ | ⟨g1 | g1,rfl⟩
   rotate_left
   ·cases g1
   ·rw [g1]; exact .inl ⟨sticky q7 (sticky q6 (sticky q5 (sticky q4 (sticky q3 (sticky q2 rfl))))),rfl⟩
   rw [g1,Option.bind_some]
   rcases q2 with ⟨-,g2,rfl⟩ | ⟨g2 | g2,rfl⟩
   rotate_left
   ·cases g2
   ·rw [g2]; exact .inl ⟨sticky q7 (sticky q6 (sticky q5 (sticky q4 (sticky q3 rfl)))),rfl⟩
   rw [g2,Option.bind_some]
   rcases q3 with ⟨-,g3,rfl⟩ | ⟨g3 | g3,rfl⟩
   rotate_left
   ·cases g3
   ·rw [g3]; exact .inl ⟨sticky q7 (sticky q6 (sticky q5 (sticky q4 rfl))),rfl⟩
   rw [g3,Option.bind_some]
   rcases q4 with ⟨-,g4,rfl⟩ | ⟨g4 | g4,rfl⟩
   rotate_left
   ·cases g4
   ·rw [g4]; exact .inl ⟨sticky q7 (sticky q6 (sticky q5 rfl)),rfl⟩
   rw [g4,Option.bind_some]
   rcases q5 with ⟨-,g5,rfl⟩ | ⟨g5 | g5,rfl⟩
   rotate_left
   ·cases g5
   ·rw [g5]; exact .inl ⟨sticky q7 (sticky q6 rfl),rfl⟩
   rw [g5,Option.bind_some]
   rcases q6 with ⟨-,⟨l,g6,rfl⟩,rfl⟩ | ⟨g6 | g6,rfl⟩
   rotate_left
   ·cases g6
   ·rw [g6]; exact .inl ⟨sticky q7 rfl,rfl⟩
   rw [g6,Option.bind_some]
   rcases q7 with ⟨-,g7,rfl⟩ | ⟨g7 | g7,rfl⟩
   rotate_left
   ·cases g7
   ·rw [g7]; exact .inl ⟨rfl,rfl⟩
   rw [g7,Option.bind_some]
   exact .inr ⟨rfl,rfl⟩
  rcases key with ⟨rfl,hk⟩ | ⟨rfl,hk⟩
  ·rw [hk,Bool.true_or]; rfl
  ·rw [hk]
   dsimp only
   rw [Bool.false_or]
   by_cases hj:s.length≤j7
   ·rw [decide_eq_false (by omega),cond_false,if_pos (List.drop_eq_nil_of_le hj),chk_true (by omega),disk_SumOf_eq,call_some,List.length_drop,Int.toNat_natCast,show s.length - (s.length - j6)=j6 by omega]
    dsimp only
    by_cases hv:v7=sumS (s.take j6)
    ·rw [decide_eq_true hv,if_neg (by simp [hv]),Check_eq,call_some]
     by_cases hd:de ⟨v1,v2,v3,v4,o6⟩=0
     ·rw [decide_eq_true hd,if_neg (by simp [hd])]; rfl
     ·rw [decide_eq_false hd,if_pos hd]; rfl
    ·rw [decide_eq_false hv,if_pos hv]; rfl
   ·rw [decide_eq_true (by omega),if_neg (by rw [List.drop_eq_nil_iff]; exact hj)]; rfl
theorem pieceR {Z:Type} (n:Int) (hn:-9223372036854775808≤n) (hn':n≤9223372036854775807) (k:Bool × Str × Bool × List Pc→Option Z):∀ (N:Nat) (m:Int) (e:Bool) (r:Str) (b:Bool) (o:List Pc),m≤9223372036854775807→r.length≤2097152→o.length+r.length≤2097152→(if b=true then 1 else r.length+2)≤N →
  ∃ (e':Bool) (r':Str) (b':Bool) (o':List Pc),loopN N (fun (s:Bool × Int × Str × Bool × List Pc) nx_94 k_93 =>
  match s with
  | (empty_81,n_82,o1_0_83,o2_0_84,o5_85) =>
   bif ((decide (0 < n_82)) && (!o2_0_84)) then
    call (R_ParseDelta_1_i1 1 o1_0_83 o2_0_84) fun r_95 =>
    bif decide (r_95.1=([0]:Str)) then
     call (R_ParseDelta_2_i1 r_95.2.1 r_95.2.2) fun r_96 =>
     call (R_ParseDelta_2_i1 r_96.2.1 r_96.2.2) fun r_97 =>
     chk ((o5_85++[(api_Piece.mk r_96.1 r_97.1 [])]).length≤274877906944) <|
     nx_94 (empty_81,IntKind.i64.wrap (n_82 - 1),r_97.2.1,r_97.2.2,o5_85++[(api_Piece.mk r_96.1 r_97.1 [])])
    else
    bif decide (r_95.1=([1]:Str)) then
     call (R_ParseDelta_2_i1 r_95.2.1 r_95.2.2) fun r_99 =>
     call (R_ParseDelta_1_i1 r_99.1 r_99.2.1 r_99.2.2) fun r_100 =>
     chk ((o5_85++[(api_Piece.mk 0 0 r_100.1)]).length≤274877906944) <|
     nx_94 ((empty_81 || (decide (r_100.1=[]))),IntKind.i64.wrap (n_82 - 1),r_100.2.1,r_100.2.2,o5_85++[(api_Piece.mk 0 0 r_100.1)])
    else
    nx_94 (empty_81,IntKind.i64.wrap (n_82 - 1),r_95.2.1,true,o5_85)
   else
   k_93 (empty_81,n_82,o1_0_83,o2_0_84,o5_85)) (e,m,r,b,o) (fun s=>match s with
  | (empty_81,n_82,o1_0_83,o2_0_84,o5_85)=>k (empty_81,o1_0_83,o2_0_84,o5_85))=k (e',r',b',o')∧r'.length≤r.length ∧
   (((b || e)=false∧(∃ l,pcs m.toNat r=some (l,r')∧o'=o++l)∧(b' || e')=false) ∨ (((b || e)=true ∨ pcs m.toNat r=none)∧(b' || e')=true)):=by
 intro N
 induction N with
 | zero=>intro m e r b o _ _ _ h; split at h <;> omega
 | succ N ih =>
  intro m e r b o hm hr ho hN
  unfold loopN
  dsimp only
  have leave:∃ (e':Bool) (r':Str) (b':Bool) (o':List Pc),k (e,r,b,o)=k (e',r',b',o')∧r'.length≤r.length∧((b=true ∨ ¬ 0 < m) →
   (((b || e)=false∧(∃ l,pcs m.toNat r=some (l,r')∧o'=o++l)∧(b' || e')=false) ∨ (((b || e)=true ∨ pcs m.toNat r=none)∧(b' || e')=true))):=by
   refine ⟨e,r,b,o,rfl,Nat.le_refl _,fun h=>?_⟩
   cases hbe:(b || e) with
   | true=>exact .inr ⟨.inl rfl,rfl⟩
   | false =>
    rw [Bool.or_eq_false_iff] at hbe
    rcases h with h | h
    ·rw [hbe.1] at h; cases h
    ·rw [show m.toNat=0 by omega]
     exact .inl ⟨rfl,⟨[],rfl,by simp⟩,rfl⟩
  obtain ⟨e1,r1,b1,o1,f1,f2,f3⟩:=leave
  by_cases hlt:0 < m
  rotate_left
  ·rw [decide_eq_false hlt,Bool.false_and,cond_false]
   exact ⟨e1,r1,b1,o1,f1,f2,f3 (.inr hlt)⟩
  rw [decide_eq_true hlt,Bool.true_and]
  cases b with
  | true =>
   rw [Bool.not_true,cond_false]
   exact ⟨e1,r1,b1,o1,f1,f2,f3 (.inl rfl)⟩
  | false =>
   clear f1 f2 f3 e1 r1 b1 o1
   rw [Bool.not_false,cond_true,takeR_eq,call_some,cut1]
   rw [if_neg (by simp)] at hN
   obtain ⟨q,hq⟩:∃ q,m.toNat=q+1:=⟨m.toNat - 1,by omega⟩
   have hw:IntKind.i64.wrap (m - 1)=m - 1:=wrapS (by omega) (by omega)
   have hq':(m - 1).toNat=q:=by omega
   rw [hw,hq]
   cases r with
   | nil =>
    obtain ⟨e',r',b',o',i1,i2,i3⟩:=ih (m - 1) e [] true o (by omega) hr ho (by rw [if_pos rfl]; omega)
    exact ⟨e',r',b',o',i1,i2,.inr ⟨.inr rfl,sticky i3 rfl⟩⟩
   | cons c r =>
    simp only [List.length_cons] at hr ho hN ⊢
    have hc0:decide (([c]:Str)=[0])=decide (c=0):=by simp
    have hc1:decide (([c]:Str)=[1])=decide (c=1):=by simp
    rw [hc0,hc1]
    simp only [pcs,pc1]
    by_cases h0:c=0
    ·rw [decide_eq_true h0,if_pos h0,cond_true]
     obtain ⟨v1,r1,b1,e1,l1,q1⟩:=numR r false
     obtain ⟨v2,r2,b2,e2,l2,q2⟩:=numR r1 b1
     rw [e1,call_some,e2,call_some,chk_true (by simp; omega)]
     have hl1:b1=false→r1.length < r.length:=by
      rintro rfl
      exact num_len (good q1 rfl).2
     obtain ⟨e',r',b',o',i1,i2,i3⟩:=ih (m - 1) e r2 b2 (o++[⟨v1,v2,[]⟩]) (by omega) (by omega) (by simp; omega) (by split <;> omega)
     refine ⟨e',r',b',o',i1,by omega,?_⟩
     rw [hq'] at i3
     rcases q1 with ⟨-,g1,rfl⟩ | ⟨g1 | g1,rfl⟩
     rotate_left
     ·cases g1
     ·rw [g1]
      have:b2=true:=sticky q2 rfl
      subst this
      exact .inr ⟨.inr rfl,sticky i3 rfl⟩
     rcases q2 with ⟨-,g2,rfl⟩ | ⟨g2 | g2,rfl⟩
     rotate_left
     ·cases g2
     ·rw [g1,Option.bind_some,g2]
      exact .inr ⟨.inr rfl,sticky i3 rfl⟩
     rw [g1,Option.bind_some,g2,Option.bind_some,Option.bind_some]
     rcases i3 with ⟨i4,⟨l,i5,i6⟩,i7⟩ | ⟨i4 | i4,i5⟩
     ·exact .inl ⟨i4,⟨_::l,by rw [i5,Option.bind_some],by rw [i6,List.append_assoc]; rfl⟩,i7⟩
     ·exact .inr ⟨.inl i4,i5⟩
     ·exact .inr ⟨.inr (by rw [i4]; rfl),i5⟩
    ·rw [decide_eq_false h0,if_neg h0,cond_false]
     by_cases h1:c=1
     ·rw [decide_eq_true h1,if_pos h1,cond_true]
      obtain ⟨v1,r1,b1,e1,l1,q1⟩:=numR r false
      obtain ⟨v2,r2,b2,e2,l2,q2⟩:=takeR v1 r1 b1
      rw [e1,call_some,e2,call_some,chk_true (by simp; omega)]
      have hl1:b1=false→r1.length < r.length:=by
       rintro rfl
       exact num_len (good q1 rfl).2
      obtain ⟨e',r',b',o',i1,i2,i3⟩:=ih (m - 1) (e || decide (v2=[])) r2 b2 (o++[⟨0,0,v2⟩]) (by omega) (by omega) (by simp; omega) (by split <;> omega)
      refine ⟨e',r',b',o',i1,by omega,?_⟩
      rw [hq'] at i3
      rcases q1 with ⟨-,g1,rfl⟩ | ⟨g1 | g1,rfl⟩
      rotate_left
      ·cases g1
      ·rw [g1]
       have:b2=true:=sticky q2 rfl
       subst this
       exact .inr ⟨.inr rfl,sticky i3 rfl⟩
      rcases q2 with ⟨-,g2,rfl⟩ | ⟨g2 | g2,rfl⟩
      rotate_left
      ·cases g2
      ·rw [g1,Option.bind_some,g2]
       exact .inr ⟨.inr rfl,sticky i3 rfl⟩
      rw [g1,Option.bind_some,g2,Option.bind_some]
      by_cases he:v2=[]
      ·rw [if_pos he]
       exact .inr ⟨.inr rfl,sticky i3 (by rw [decide_eq_true he,Bool.or_true]; rfl)⟩
      ·rw [if_neg he,Option.bind_some]
       rw [decide_eq_false he,Bool.or_false] at i3
       rcases i3 with ⟨i4,⟨l,i5,i6⟩,i7⟩ | ⟨i4 | i4,i5⟩
       ·exact .inl ⟨i4,⟨_::l,by rw [i5,Option.bind_some],by rw [i6,List.append_assoc]; rfl⟩,i7⟩
       ·exact .inr ⟨.inl i4,i5⟩
       ·exact .inr ⟨.inr (by rw [i4]; rfl),i5⟩
     ·rw [decide_eq_false h1,if_neg h1,cond_false]
      obtain ⟨e',r',b',o',i1,i2,i3⟩:=ih (m - 1) e r true o (by omega) (by omega) (by omega) (by rw [if_pos rfl]; omega)
      exact ⟨e',r',b',o',i1,by omega,.inr ⟨.inr rfl,sticky i3 rfl⟩⟩
theorem R_ParseDelta_eq (s:Str):R_ParseDelta s=some (parseS s):=by
 unfold R_ParseDelta parseS
 by_cases hs:2097152 < s.length
 ·rw [decide_eq_true (by omega),if_pos hs]; rfl
 rw [decide_eq_false (by omega),if_neg hs,cond_false]
 replace hs:s.length≤2097152:=by omega
 obtain ⟨x,r0,b',e0,l0,q0⟩:∃ x r0 b',R_ParseDelta_1_i1 4 s false=some (x,r0,b')∧r0.length≤s.length ∧
   (((!decide (x=([79,70,68,49]:Str)))=false∧cutS 4 s=some (x,r0)∧x=([79,70,68,49]:Str)) ∨ ((!decide (x=([79,70,68,49]:Str)))=true∧fullS s=none)):=by
  rw [takeR_eq]
  cases h:cutS 4 s with
  | none=>exact ⟨_,_,_,rfl,by simp,.inr ⟨rfl,by unfold fullS; rw [h]; rfl⟩⟩
  | some y =>
   obtain ⟨y,r⟩:=y
   have:=cutS_len h
   by_cases hy:y=([79,70,68,49]:Str)
   ·exact ⟨_,_,_,rfl,by omega,.inl ⟨by rw [decide_eq_true hy]; rfl,rfl,hy⟩⟩
   ·exact ⟨_,_,_,rfl,by omega,.inr ⟨by rw [decide_eq_false hy]; rfl,by unfold fullS; rw [h,Option.bind_some,if_neg hy]⟩⟩
 rw [e0,call_some]
 dsimp only
 generalize (!decide (x=([79,70,68,49]:Str)))=b0 at q0 ⊢
 obtain ⟨v1,r1,b1,e1,l1,q1⟩:=numR r0 b0
 obtain ⟨v2,r2,b2,e2,l2,q2⟩:=numR r1 b1
 obtain ⟨v3,r3,b3,e3,l3,q3⟩:=sumR r2 b2
 obtain ⟨v4,r4,b4,e4,l4,q4⟩:=sumR r3 b3
 obtain ⟨v5,r5,b5,e5,l5,q5⟩:=numR r4 b4
 rw [e1,call_some,e2,call_some,e3,call_some,e4,call_some,jp_eq,e5,call_some]
 obtain ⟨N,hN⟩:∃ N,Fuel=N:=⟨_,rfl⟩
 have hF:1099511627776≤N:=hN ▸ fuel_ge
 rw [hN]
 -- the count,if it was read
 have hv5:b5=false→v5≤9223372036854775807:=by
  rintro rfl
  exact (num_range (good q5 rfl).2).2
 obtain ⟨v,hv,hvle⟩:∃ v:Int,v≤9223372036854775807∧(b5=false→v=v5):=by
  cases b5 with
  | true=>exact ⟨0,by omega,fun h=>by cases h⟩
  | false=>exact ⟨v5,hv5 rfl,fun _=>rfl⟩
 have hloop:=pieceR 0 (by omega) (by omega) (fun (s_1:Bool × Str × Bool × List Pc)=>match s_1 with
  | (empty_53,o1_0_54,o2_0_55,o5_56) =>
   chk (0≤IntKind.i64.wrap ((s.length:Int) - (o1_0_54.length:Int))∧IntKind.i64.wrap ((s.length:Int) - (o1_0_54.length:Int))≤(s.length:Int)) <|
   call (R_ParseDelta_3_i1 o1_0_54 o2_0_55) fun r_59 =>
   bif ((r_59.2.2 || empty_53) || (!decide (r_59.2.1=[]))) then
    some ((api_Delta.mk 0 0 [] [] []),8)
   else
   call (R_SumOf (List.take ((IntKind.i64.wrap ((s.length:Int) - (o1_0_54.length:Int))).toNat) s)) fun r_60 =>
   bif !decide (r_59.1=r_60) then
    some ((api_Delta.mk 0 0 [] [] []),14)
   else
   call (R_DeltaError (api_Delta.mk v1 v2 v3 v4 o5_56)) fun r_61 =>
   bif !decide (r_61=0) then
    some ((api_Delta.mk 0 0 [] [] []),r_61)
   else
   some ((api_Delta.mk v1 v2 v3 v4 o5_56),0)) N v false r5 b5 [] hv (by omega) (by simp; omega) (by split <;> omega)
 obtain ⟨e6,r6,b6,o6,f6,l6,q6⟩:=hloop
 have hstart:∀ {Z:Type} (F:Bool × Int × Str × Bool × List Pc→(Bool × Int × Str × Bool × List Pc→Option Z)→(Bool × Int × Str × Bool × List Pc→Option Z)→Option Z) (K:Bool × Int × Str × Bool × List Pc→Option Z),
   (∀ m nx,F (false,m,r5,true,[]) nx K=K (false,m,r5,true,[]))→(∀ m m',K (false,m,r5,true,[])=K (false,m',r5,true,[]))→loopN N F (false,v5,r5,b5,[]) K=loopN N F (false,v,r5,b5,[]) K:=by
  intro Z F K h1 h2
  cases b5 with
  | false=>rw [hvle rfl]
  | true =>
   obtain ⟨N',rfl⟩:∃ N',N=N'+1:=⟨N - 1,by omega⟩
   unfold loopN
   rw [h1,h1]
   exact h2 _ _
 refine (hstart _ _ (fun m nx=>?_) (fun m m'=>rfl)).trans (f6.trans ?_)
 ·dsimp only
  rw [Bool.not_true,Bool.and_false,cond_false]
 clear hstart f6
 dsimp only
 obtain ⟨v7,r7,b7,e7,l7,q7⟩:=sumR r6 b6
 have hw:IntKind.i64.wrap ((s.length:Int) - (r6.length:Int))=((s.length - r6.length:Nat):Int):=by rw [wrapS (by omega) (by omega)]; omega
 rw [hw,chk_true (by omega),e7,call_some]
 simp only [Bool.or_false,List.nil_append] at q6
 have key:((b7 || e6)=true∧fullS s=none) ∨ ((b7 || e6)=false∧fullS s=if r7=[] then some ((⟨v1,v2,v3,v4,o6⟩:api_Delta),s.take (s.length - r6.length),v7) else none):=by
  have s7:(b6 || e6)=true→(b7 || e6)=true:=by
   intro h
   rcases Bool.or_eq_true_iff.1 h with h | h
   ·rw [sticky q7 h]; rfl
   ·rw [h,Bool.or_true]
  rcases q0 with ⟨rfl,g0,rfl⟩ | ⟨rfl,g0⟩
  rotate_left
  ·exact .inl ⟨s7 (sticky q6 (sticky q5 (sticky q4 (sticky q3 (sticky q2 (sticky q1 rfl)))))),g0⟩
  unfold fullS
  rw [g0,Option.bind_some]
  dsimp only
  rw [if_pos rfl]
  rcases q1 with ⟨-,g1,rfl⟩ | ⟨g1 | g1,rfl⟩
  rotate_left
  ·cases g1
  ·rw [g1]; exact .inl ⟨s7 (sticky q6 (sticky q5 (sticky q4 (sticky q3 (sticky q2 rfl))))),rfl⟩
  rw [g1,Option.bind_some]
  rcases q2 with ⟨-,g2,rfl⟩ | ⟨g2 | g2,rfl⟩
  rotate_left
  ·cases g2
  ·rw [g2]; exact .inl ⟨s7 (sticky q6 (sticky q5 (sticky q4 (sticky q3 rfl)))),rfl⟩
  rw [g2,Option.bind_some]
  rcases q3 with ⟨-,g3,rfl⟩ | ⟨g3 | g3,rfl⟩
  rotate_left
  ·cases g3
  ·rw [g3]; exact .inl ⟨s7 (sticky q6 (sticky q5 (sticky q4 rfl))),rfl⟩
  rw [g3,Option.bind_some]
  rcases q4 with ⟨-,g4,rfl⟩ | ⟨g4 | g4,rfl⟩
  rotate_left
  ·cases g4
  ·rw [g4]; exact .inl ⟨s7 (sticky q6 (sticky q5 rfl)),rfl⟩
  rw [g4,Option.bind_some]
  rcases q5 with ⟨-,g5,rfl⟩ | ⟨g5 | g5,rfl⟩
  rotate_left
  ·cases g5
  ·rw [g5]; exact .inl ⟨s7 (sticky q6 rfl),rfl⟩
  rw [g5,Option.bind_some]
  obtain rfl:=hvle rfl
  rcases q6 with ⟨-,⟨l,g6,rfl⟩,hbe⟩ | ⟨g6 | g6,hbe⟩
  rotate_left
  ·cases g6
  ·rw [g6]; exact .inl ⟨s7 hbe,rfl⟩
  rw [g6,Option.bind_some]
  rw [Bool.or_eq_false_iff] at hbe
  obtain ⟨rfl,rfl⟩:=hbe
  rcases q7 with ⟨-,g7,rfl⟩ | ⟨g7 | g7,rfl⟩
  rotate_left
  ·cases g7
  ·rw [g7]; exact .inl ⟨rfl,rfl⟩
  rw [g7,Option.bind_some]
  exact .inr ⟨rfl,rfl⟩
 dsimp only
 rcases key with ⟨hb,hk⟩ | ⟨hb,hk⟩
 ·rw [hk,hb,Bool.true_or]; rfl
 ·rw [hk,hb,Bool.false_or]
  by_cases hj:r7=[]
  ·rw [decide_eq_true hj,Bool.not_true,cond_false,if_pos hj,R_SumOf_eq,call_some,Int.toNat_natCast]
   dsimp only
   by_cases hv:v7=sumS (s.take (s.length - r6.length))
   ·rw [decide_eq_true hv,if_neg (by simp [hv]),DeltaError_eq,call_some]
    by_cases hd:de ⟨v1,v2,v3,v4,o6⟩=0
    ·rw [decide_eq_true hd,if_neg (by simp [hd])]; rfl
    ·rw [decide_eq_false hd,if_pos hd]; rfl
   ·rw [decide_eq_false hv,if_pos hv]; rfl
  ·rw [decide_eq_false hj,if_neg hj]; rfl
def lcp:Str→Str→Nat
 | x::a,y::b=>if x=y then lcp a b+1 else 0
 | _,_=>0
theorem lcp_le:∀ (a b:Str),lcp a b≤a.length∧lcp a b≤b.length∧a.take (lcp a b)=b.take (lcp a b)
 | [],b=>by simp [lcp]
 | x::a,[]=>by simp [lcp]
 | x::a,y::b=>by
  have ih:=lcp_le a b
  simp only [lcp]
  split
  ·rename_i h; subst h
   exact ⟨by simp only [List.length_cons]; omega,by simp only [List.length_cons]; omega,by rw [List.take_succ_cons,List.take_succ_cons,ih.2.2]⟩
  ·simp
def bst (b:Str):Str→Nat→Nat × Nat→Nat × Nat
 | [],_,p=>p
 | x::r,k,p=>bst b r (k+1) (if p.2 < lcp (x::r) b then (k,lcp (x::r) b) else p)
def best (a b:Str):Nat × Nat:=bst b a 0 (0,0)
theorem bst_ok {a b:Str}:∀ (r:Str) (k:Nat) (p:Nat × Nat),a.drop k=r→p.1+p.2≤a.length→p.2≤b.length→(a.drop p.1).take p.2=b.take p.2 →
  (bst b r k p).1+(bst b r k p).2≤a.length∧(bst b r k p).2≤b.length∧(a.drop (bst b r k p).1).take (bst b r k p).2=b.take (bst b r k p).2
 | [],_,_,_,h1,h2,h3=>⟨h1,h2,h3⟩
 | x::r,k,p,hr,h1,h2,h3=>by
  obtain ⟨hi,hd⟩:=drop_cons hr
  have hl:=lcp_le (x::r) b
  have hlen:=congrArg List.length hr
  simp only [List.length_drop,List.length_cons] at hlen hl
  simp only [bst]
  split
  ·exact bst_ok r (k+1) _ hd (by simp only; omega) (by simp only; omega) (by simp only; rw [hr]; exact hl.2.2)
  ·exact bst_ok r (k+1) p hd h1 h2 h3
theorem best_ok (a b:Str):(best a b).1+(best a b).2≤a.length∧(best a b).2≤b.length∧(a.drop (best a b).1).take (best a b).2=b.take (best a b).2 :=
 bst_ok a 0 (0,0) (List.drop_zero) (by simp) (by simp) (by simp)
def dataP (data:Str):List Pc:=if data=[] then [] else [⟨0,0,data⟩]
def mkP (a:Str):Nat→Str→Str→List Pc
 | 0,_,_=>[]
 | n+1,bs,data=>if bs=[] then dataP data else
  if (best a bs).2 < 8 then mkP a n (bs.drop 1) (data++bs.take 1) else
  dataP data++⟨((best a bs).1:Int),((best a bs).2:Int),[]⟩::mkP a n (bs.drop (best a bs).2) []
def piecesOf (a b:Str):List Pc:=mkP a (b.length+1) b []
def psz (p:Pc):Int:=if p.Data=[] then p.Long else (p.Data.length:Int)
def tot (l:List Pc):Int:=(l.map psz).sum
theorem peL_good {old:Int}:∀ (l:List Pc) (n:Int),(∀ p ∈ l,Pok old p)→old≤65536→0≤n→n+tot l≤65536→peL old l n=(n+tot l,0)
 | [],n,_,_,_,h=>by
  simp only [tot,List.map_nil,List.sum_nil,Int.add_zero] at h ⊢
  unfold peL
  rw [decide_eq_false (by omega)]; rfl
 | p::l,n,hp,ho,hn,h=>by
  have ht:tot (p::l)=psz p+tot l:=by simp [tot]
  have h0:∀ l:List Pc,(∀ p ∈ l,Pok old p)→0≤tot l:=by
   intro l hl
   induction l with
   | nil=>simp [tot]
   | cons q l ih =>
    have:=ih fun p hp=>hl p (by simp [hp])
    have hq:0≤psz q:=by
     unfold psz
     rcases hl q (by simp) with ⟨a,_,_⟩ | ⟨a,_,c,_⟩
     ·rw [if_neg a]; omega
     ·rw [if_pos a]; omega
    simp only [tot,List.map_cons,List.sum_cons] at this ⊢
    omega
  have h1:=h0 l fun q hq=>hp q (by simp [hq])
  rw [ht] at h ⊢
  unfold peL
  rcases hp p (by simp) with ⟨a,b,c⟩ | ⟨a,b,c,d⟩
  ·have e:psz p=(p.Data.length:Int):=if_neg a
   rw [decide_eq_false a,b,c]
   simp only [Bool.not_false,cond_true,decide_true,Bool.not_true,Bool.or_self,cond_false]
   rw [wrapS (by omega) (by omega),peL_good l _ (fun q hq=>hp q (by simp [hq])) ho (by omega) (by omega),e]
   congr 1; omega
  ·have e:psz p=p.Long:=if_pos a
   rw [decide_eq_true a,decide_eq_false (show ¬ p.At < 0 by omega),decide_eq_false (show ¬ p.Long < 1 by omega),decide_eq_false (show ¬ old < p.At by omega),decide_eq_false (show ¬ old - p.At < p.Long by omega)]
   simp only [Bool.not_true,cond_false,Bool.or_self]
   rw [wrapS (by omega) (by omega),peL_good l _ (fun q hq=>hp q (by simp [hq])) ho (by omega) (by omega),e]
   congr 1; omega
theorem mkP_ok (a:Str):∀ (n:Nat) (bs data:Str),bs.length < n→(∀ p ∈ mkP a n bs data,Pok a.length p∧p.Data.length≤data.length+bs.length) ∧
  (mkP a n bs data).length≤bs.length+(if data=[] then 0 else 1)∧tot (mkP a n bs data)=((data.length+bs.length:Nat):Int)∧made a (mkP a n bs data)=data++bs:=by
 intro n
 induction n with
 | zero=>intro bs data h; omega
 | succ n ih =>
  intro bs data h
  simp only [mkP]
  have hD:(∀ p ∈ dataP data,Pok a.length p∧p.Data.length≤data.length)∧(dataP data).length=(if data=[] then 0 else 1)∧tot (dataP data)=(data.length:Int)∧made a (dataP data)=data:=by
   unfold dataP
   split
   ·rename_i he
    subst he
    exact ⟨by simp,rfl,rfl,rfl⟩
   ·rename_i he
    refine ⟨?_,rfl,?_,?_⟩
    ·intro p hp
     rw [List.mem_singleton] at hp
     subst hp
     exact ⟨.inl ⟨he,rfl,rfl⟩,Nat.le_refl _⟩
    ·simp [tot,psz,he]
    ·simp [made,pm,he]
  by_cases hb:bs=[]
  ·subst hb
   rw [if_pos rfl]
   obtain ⟨h1,h2,h3,h4⟩:=hD
   exact ⟨fun p hp=>⟨(h1 p hp).1,by have:=(h1 p hp).2; simp; omega⟩,by rw [h2]; simp,by rw [h3]; simp,by rw [h4]; simp⟩
  ·rw [if_neg hb]
   have hl:1≤bs.length:=by
    rcases bs with _ | ⟨x,bs⟩
    ·exact absurd rfl hb
    ·simp
   split
   ·have ht:(bs.take 1).length=1:=by rw [List.length_take]; omega
    obtain ⟨h1,h2,h3,h4⟩:=ih (bs.drop 1) (data++bs.take 1) (by rw [List.length_drop]; omega)
    rw [List.length_append,List.length_drop,ht] at h1
    rw [List.length_drop] at h2
    rw [List.length_append,List.length_drop,ht] at h3
    refine ⟨fun p hp=>⟨(h1 p hp).1,by have:=(h1 p hp).2; omega⟩,?_,by rw [h3]; congr 1; omega,by rw [h4,List.append_assoc,List.take_append_drop]⟩
    refine Nat.le_trans h2 ?_
    split <;> omega
   ·rename_i h8
    obtain ⟨b1,b2,b3⟩:=best_ok a bs
    obtain ⟨h1,h2,h3,h4⟩:=ih (bs.drop (best a bs).2) [] (by rw [List.length_drop]; omega)
    rw [List.length_drop] at h1 h2 h3
    rw [if_pos rfl] at h2
    simp only [List.length_nil,Nat.zero_add] at h1 h3
    obtain ⟨d1,d2,d3,d4⟩:=hD
    refine ⟨?_,?_,?_,?_⟩
    ·intro p hp
     rcases List.mem_append.1 hp with hp | hp
     ·have:=d1 p hp; exact ⟨this.1,by omega⟩
     ·rcases List.mem_cons.1 hp with rfl | hp
      ·exact ⟨.inr ⟨rfl,by simp,by simp only; omega,by simp only; omega⟩,by simp⟩
      ·have:=h1 p hp; exact ⟨this.1,by omega⟩
    ·rw [List.length_append,List.length_cons,d2]
     split <;> omega
    ·have:tot (dataP data++⟨((best a bs).1:Int),((best a bs).2:Int),[]⟩::mkP a n (bs.drop (best a bs).2) [])=tot (dataP data)+((best a bs).2+tot (mkP a n (bs.drop (best a bs).2) [])):=by simp [tot,psz]
     rw [this,d3,h3]; omega
    ·have:made a (dataP data++⟨((best a bs).1:Int),((best a bs).2:Int),[]⟩::mkP a n (bs.drop (best a bs).2) [])=made a (dataP data)++((a.drop (best a bs).1).take (best a bs).2++made a (mkP a n (bs.drop (best a bs).2) [])):=by simp [made,pm]
     rw [this,d4,h4,b3,List.nil_append,List.take_append_drop]
theorem pieces_few (a b:Str) (hb:b.length≤600):(piecesOf a b).length≤600:=by
 obtain ⟨h1,h2,h3,h4⟩:=mkP_ok a (b.length+1) b [] (by omega)
 rw [if_pos rfl] at h2
 unfold piecesOf; omega
theorem Delta_dok (a b:Str) (ha:a.length≤600) (hb:b.length≤600):Dok ⟨(a.length:Int),(b.length:Int),sumS a,sumS b,piecesOf a b⟩:=by
 obtain ⟨h1,h2,h3,h4⟩:=mkP_ok a (b.length+1) b [] (by omega)
 rw [if_pos rfl] at h2
 simp only [List.length_nil,Nat.zero_add] at h1 h3
 have hl:=pieces_few a b hb
 have hp:pe (piecesOf a b) (a.length:Int)=((b.length:Int),0):=by
  unfold pe
  rw [bif_f (by rw [decide_eq_false (by omega),decide_eq_false (by omega)]; rfl),bif_f (decide_eq_false (by omega))]
  have ht:tot (piecesOf a b)=(b.length:Int):=h3
  show peL (a.length:Int) (mkP a (b.length+1) b []) 0=_
  rw [peL_good _ 0 (fun p hp=>(h1 p hp).1) (by omega) (by omega) (by omega),h3,Int.zero_add]
 refine ⟨?_,?_⟩
 ·unfold de
  dsimp only
  rw [hp,isS_sumS,isS_sumS,bif_f (by rw [decide_eq_false (show ¬ ((a.length:Int) < 0) by omega),decide_eq_false (show ¬ ((65536:Int) < (a.length:Int)) by omega),decide_eq_false (show ¬ ((b.length:Int) < 0) by omega),decide_eq_false (show ¬ ((65536:Int) < (b.length:Int)) by omega)]; rfl)]
  simp
 ·intro p hp
  have:=(h1 p hp).2
  omega
theorem short_eq (s:Str):Law_short s=some (s.take 600):=by
 unfold Law_short
 rw [chk_true (by omega)]
 congr 1
 by_cases h:s.length≤600
 ·rw [List.take_of_length_le (by omega),List.take_of_length_le h]
 ·rw [show (min (s.length:Int) 600).toNat=600 by omega]
theorem short_len (s:Str):(s.take 600).length≤600:=by rw [List.length_take]; omega
section
open Go.Sfa
def cvE (l:Ed):List delta_edge:=l.map fun p=>⟨(p.1.toNat:Int),(p.2:Int)⟩
def cvL:Option Nat→Int
 | none=>-1
 | some k=>(k:Int)
def cv1 (s:Ps):delta_state:=⟨(s.lg:Int),(s.fi:Int),cvL s.lk,cvE s.ed⟩
theorem u8_int {a b:UInt8}:(a.toNat:Int)=(b.toNat:Int) ↔ a=b:=⟨fun h=>UInt8.toNat_inj.1 (by omega),fun h=>by rw [h]⟩
theorem next_eq (s:Ps) (c:UInt8):delta_state_next_i1 (cv1 s) (c.toNat:Int)=some (cvL (nxE s.ed c)):=by
 unfold delta_state_next_i1
 rw [jp_eq]
 have key:∀ (l:Ed) (q:Nat),forL (cvE l) q (fun i_15 e_17 s nx_14 k_13 =>
  bif decide (e_17.c=(c.toNat:Int)) then
   some e_17.to
  else
  nx_14 ()) () (fun _=>some (-1))=some (cvL (nxE l c)):=by
  intro l
  induction l with
  | nil=>intro q; rfl
  | cons p l ih =>
   intro q
   rw [show cvE (p::l)=(⟨(p.1.toNat:Int),(p.2:Int)⟩:delta_edge)::cvE l from rfl,nxE_cons]
   unfold forL
   dsimp only
   by_cases h:p.1=c
   ·rw [decide_eq_true (u8_int.2 h),cond_true,if_pos h]; rfl
   ·rw [decide_eq_false (fun k=>h (u8_int.1 k)),cond_false,if_neg h]
    exact ih (q+1)
 exact key s.ed 0
theorem getD_cv (ps:List Ps) {p:Nat} (h:p < ps.length):(ps.map cv1).getD p (delta_state.mk 0 0 0 [])=cv1 (Sfa.st ps p):=by
 simp [List.getD_eq_getElem?_getD,Sfa.st,h]
theorem set_cv (ps:List Ps) (p:Nat) (x:Ps):List.set (ps.map cv1) p (cv1 x)=(ps.set p x).map cv1:=by rw [List.map_set]
theorem setE_step {l:Ed} {c:UInt8} {t q:Nat} (hq:q < l.length) (hne:l[q].1 ≠ c) (h:setE l c t=l.take q++setE (l.drop q) c t):setE l c t=l.take (q+1)++setE (l.drop (q+1)) c t:=by
 rw [h,List.drop_eq_getElem_cons hq]
 simp only [setE,if_neg hne]
 rw [List.take_succ_eq_append_getElem hq,List.append_assoc]
 rfl
theorem set_eq (ps:List Ps) (p:Nat) (c:UInt8) (to:Nat) (hp:p < ps.length) (hl:(Sfa.st ps p).ed.length≤1000000) :
  delta_state_set_i1 p (c.toNat:Int) (to:Int) (ps.map cv1)=some ((ps.set p { Sfa.st ps p with ed:=setE (Sfa.st ps p).ed c to }).map cv1):=by
 unfold delta_state_set_i1
 rw [chk_true (by simpa using hp),jp_eq]
 simp only [getD_cv ps hp]
 generalize hx:Sfa.st ps p=x at *
 obtain ⟨N,hN⟩:∃ N,Fuel=N:=⟨_,rfl⟩
 have hN2:1099511627776≤N:=hN ▸ fuel_ge
 rw [hN]
 clear hN
 have hel:(cv1 x).edges.length=x.ed.length:=by simp [cv1,cvE]
 refine loopN_run (S:=Int) (fun s=>∃ q:Nat,s=q∧q≤x.ed.length∧setE x.ed c to=x.ed.take q++setE (x.ed.drop q) c to) (fun s=>x.ed.length - s.toNat) (fun _=>some ((ps.set p { x with ed:=setE x.ed c to }).map cv1)) ?_ N 0 ⟨0,rfl,by omega,by simp⟩ (by first | omega | (simp only; omega))
 rintro s nx ⟨q,rfl,h1,h2⟩ hnx
 rw [hel]
 by_cases h:q < x.ed.length
 ·have hg:(cv1 x).edges.getD (q:Int).toNat (delta_edge.mk 0 0)=⟨(x.ed[q].1.toNat:Int),(x.ed[q].2:Int)⟩:=by
   simp [cv1,cvE,List.getD_eq_getElem?_getD,h]
  rw [decide_eq_true (by omega),cond_true,chk_true (by omega)]
  simp only [hg]
  by_cases e:x.ed[q].1=c
  ·rw [decide_eq_true (u8_int.2 e),cond_true,chk_true (by omega)]
   show some _=some _
   congr 1
   rw [← set_cv]
   congr 1
   rw [h2,List.drop_eq_getElem_cons h]
   have e2:setE (x.ed[q]::x.ed.drop (q+1)) c to=(c,to)::x.ed.drop (q+1):=by simp [setE,e]
   rw [e2]
   have e3:x.ed.take q++(c,to)::x.ed.drop (q+1)=x.ed.set q (c,to):=by rw [List.set_eq_take_append_cons_drop,if_pos h]
   rw [e3]
   simp [cv1,cvE,List.map_set,e]
  ·rw [decide_eq_false (fun k=>e (u8_int.1 k)),cond_false,wrap1 q (by omega)]
   exact hnx _ ⟨q+1,rfl,by omega,setE_step h e h2⟩ (by simp only [Int.toNat_natCast]; omega)
 ·obtain rfl:q=x.ed.length:=by omega
  rw [decide_eq_false (by omega),cond_false,chk_true (by simp [cv1,cvE]; omega)]
  show some _=some _
  congr 1
  rw [← set_cv]
  congr 1
  rw [h2]
  simp [cv1,cvE,setE]
end
section
open Go.Sfa
def dpt (L:Nat→B):Option Nat→Nat
 | none=>0
 | some p=>(L p).length+1
def mz (L:Nat→B) (i:Int):Nat:=if i < 0 then 0 else (L i.toNat).length+1
theorem mz_cv (L:Nat→B) (po:Option Nat):mz L (cvL po)=dpt L po:=by
 cases po with
 | none=>rfl
 | some p =>
  show mz L (p:Int)=_
  unfold mz
  rw [if_neg (by omega),Int.toNat_natCast]; rfl
section
variable {S Z α:Type}
theorem loopN_good {f:S→(S→Option Z)→(S→Option Z)→Option Z} {k:S→Option Z} (inv:S→Prop) (mu:S→Nat) (G:Option Z→Prop)
  (h:∀ s nx,inv s→(∀ s',inv s'→mu s' < mu s→G (nx s'))→G (f s nx k)):∀ (N:Nat) (s:S),inv s→mu s < N→G (loopN N f s k)
 | 0,s,_,hm=>by omega
 | N+1,s,hi,hm=>by
  unfold loopN
  exact h s _ hi fun s' hs' hlt=>loopN_good inv mu G h N s' hs' (by omega)
theorem forL_good {f:Nat→α→S→(S→Option Z)→(S→Option Z)→Option Z} {k:S→Option Z} (inv:Nat→List α→S→Prop) (G:Option Z→Prop)
  (h0:∀ i s,inv i [] s→G (k s)) (h1:∀ i x l s nx,inv i (x::l) s→(∀ s',inv (i+1) l s'→G (nx s'))→G (f i x s nx k)) :
  ∀ (l:List α) (i:Nat) (s:S),inv i l s→G (forL l i f s k)
 | [],i,s,h=>h0 i s h
 | x::l,i,s,h=>h1 i x l s _ h fun s' hs=>forL_good inv G h0 h1 l (i+1) s' hs
end
theorem cvL_nat (k:Nat):cvL (some k)=(k:Int):=rfl
theorem loop1_eq {w:B} {c:UInt8} {ps0:List Ps} {L:Nat→B} {last n:Nat} {nw:Ps} (h:Inv w (vw ps0) L last) (hn:n=ps0.length) (hnl:n≤100000) (hw:w.length≤100000) (Bn:Nat) (hBn:Bn≤500000) (hed:∀ s,(Sfa.st ps0 s).ed.length≤Bn) (hnw:nw.ed.length≤Bn)
  (N:Nat) (hN2:1099511627776≤N) {Z:Type} (K:Int × List delta_state→Option Z) (G:Option Z→Prop)
  (hK:∀ po ps,W1 w c ps0 L nw po ps→(∀ p,po=some p→(nxE (Sfa.st ps p).ed c).isSome=true)→(∀ s,(Sfa.st ps s).ed.length≤Bn+w.length+1)→G (K (cvL po,ps.map cv1))) :
 G <| loopN N (fun s nx_404 k_403 =>
  match s with
  | (p_389,o1_390) =>
   chk ((decide (0≤p_389))=true→(0≤p_389∧p_389 < (o1_390.length:Int))) <|
   callG (decide (0≤p_389)) (delta_state_next_i1 (o1_390.getD p_389.toNat (delta_state.mk 0 0 0 [])) (c.toNat:Int)) 0 fun r_406 =>
   bif ((decide (0≤p_389)) && (decide (r_406 < 0))) then
    chk (0≤p_389∧p_389 < (o1_390.length:Int)) <|
    call (delta_state_set_i1 p_389.toNat (c.toNat:Int) (n:Int) o1_390) fun r_414 =>
    chk (0≤p_389∧p_389 < (r_414.length:Int)) <|
    nx_404 ((r_414.getD p_389.toNat (delta_state.mk 0 0 0 [])).link,r_414)
   else
   k_403 (p_389,o1_390)) ((last:Int),(ps0++[nw]).map cv1) (fun s=>match s with
  | (p_389,o1_390) =>
   K (p_389,o1_390)):=by
 have hlw:L last=w:=h.last.2
 have hl0:last < ps0.length:=h.last.1
 refine loopN_good (S:=Int × List delta_state) (fun s=>∃ (po:Option Nat) (ps:List Ps),s=(cvL po,ps.map cv1)∧W1 w c ps0 L nw po ps∧∀ s,(Sfa.st ps s).ed.length+dpt L po≤Bn+w.length+1) (fun s=>mz L s.1) G ?_ N ((last:Int),(ps0++[nw]).map cv1) ⟨some last,ps0++[nw],rfl,.start h nw,fun s=>?_⟩ ?_
 ·rintro _ nx ⟨po,ps,rfl,k,hb⟩ hnx
  dsimp only at hnx ⊢
  cases po with
  | none =>
   rw [show cvL none=(-1:Int) from rfl,show decide ((0:Int)≤-1)=false from rfl,chk_true (fun h=>by cases h),callG_false,Bool.false_and,cond_false]
   exact hK none ps k (fun p e=>by cases e) fun s=>by have:=hb s; omega
  | some p =>
   obtain ⟨hp,hpw⟩:=k.at_ p rfl
   have hpl:p < ps.length:=by rw [k.len]; omega
   rw [cvL_nat,decide_eq_true (by omega),chk_true (fun _=>by simp; omega),callG_true,Int.toNat_natCast,getD_cv ps hpl,next_eq,call_some,Bool.true_and]
   cases hq:nxE (Sfa.st ps p).ed c with
   | some q =>
    rw [cvL_nat,decide_eq_false (by omega),cond_false]
    exact hK (some p) ps k (fun p' e=>by cases e; rw [hq]; rfl) fun s=>by have:=hb s; omega
   | none =>
    rw [show decide (cvL none < 0)=true from rfl,cond_true,chk_true (by simp; omega)]
    have hbp:=hb p
    rw [set_eq ps p c n hpl (by omega),call_some,chk_true (by simp; omega)]
    subst hn
    have k2:=k.next h hq
    have hst:Sfa.st (ps.set p { Sfa.st ps p with ed:=setE (Sfa.st ps p).ed c ps0.length }) p={ Sfa.st ps p with ed:=setE (Sfa.st ps p).ed c ps0.length }:=by rw [st_set ps _ hpl,if_pos rfl]
    rw [getD_cv _ (by simp; omega),hst]
    have hd:dpt L (Sfa.st ps p).lk+1≤dpt L (some p):=by
     cases e:(Sfa.st ps p).lk with
     | none=>simp [dpt]
     | some r =>
      rw [k.lk p hp] at e
      have:=((chain_next h hp hpw).1 r e).2.2
      simp only [dpt]; omega
    refine hnx _ ⟨(Sfa.st ps p).lk,_,rfl,k2,fun s=>?_⟩ ?_
    ·rw [st_set ps _ hpl]
     split
     ·have:=setE_len (Sfa.st ps p).ed c ps0.length
      have:=hb p
      simp only; omega
     ·have:=hb s; omega
    ·show mz L (cvL (Sfa.st ps p).lk) < mz L (cvL (some p))
     rw [mz_cv,mz_cv]; omega
 ·simp only [dpt]
  rw [st_app,hlw]
  split
  ·omega
  ·have:=hed s; omega
 ·show mz L (cvL (some last)) < N
  rw [mz_cv]; simp only [dpt]; rw [hlw]; omega
theorem loop2_eq {w:B} {c:UInt8} {ps0 ps1:List Ps} {L:Nat→B} {last p q hf:Nat} {nw cl:Ps} (h:Inv w (vw ps0) L last) (k1:W1 w c ps0 L nw (some p) ps1) (hq0:nxE (Sfa.st ps1 p).ed c=some q) (hn:hf=ps0.length+1) (hnl:ps0.length≤100000) (hw:w.length≤100000) (Bn:Nat) (hBn:Bn≤800000) (hed:∀ s,(Sfa.st (ps1++[cl]) s).ed.length≤Bn)
  (N:Nat) (hN2:1099511627776≤N) {Z:Type} (K:Int × List delta_state→Option Z) (G:Option Z→Prop)
  (hK:∀ po ps,W2 w c ps0 ps1 L p q cl po ps→(∀ p',po=some p'→nxE (Sfa.st ps p').ed c ≠ some q)→(∀ s,(Sfa.st ps s).ed.length≤Bn+w.length+1)→G (K (cvL po,ps.map cv1))) :
 G <| loopN N (fun s nx_363 k_362 =>
    match s with
    | (p_348,o1_349) =>
     chk ((decide (0≤p_348))=true→(0≤p_348∧p_348 < (o1_349.length:Int))) <|
     callG (decide (0≤p_348)) (delta_state_next_i1 (o1_349.getD p_348.toNat (delta_state.mk 0 0 0 [])) (c.toNat:Int)) 0 fun r_365 =>
     bif ((decide (0≤p_348)) && (decide (r_365=(q:Int)))) then
      chk (0≤p_348∧p_348 < (o1_349.length:Int)) <|
      call (delta_state_set_i1 p_348.toNat (c.toNat:Int) (hf:Int) o1_349) fun r_373 =>
      chk (0≤p_348∧p_348 < (r_373.length:Int)) <|
      nx_363 ((r_373.getD p_348.toNat (delta_state.mk 0 0 0 [])).link,r_373)
     else
     k_362 (p_348,o1_349)) ((p:Int),(ps1++[cl]).map cv1) (fun s=>match s with
    | (p_348,o1_349) =>
     K (p_348,o1_349)):=by
 obtain ⟨hp0,hpw0⟩:=k1.at_ p rfl
 have hpl0:(L p).length≤w.length:=hpw0.length_le
 refine loopN_good (S:=Int × List delta_state) (fun s=>∃ (po:Option Nat) (ps:List Ps),s=(cvL po,ps.map cv1)∧W2 w c ps0 ps1 L p q cl po ps∧∀ s,(Sfa.st ps s).ed.length+dpt L po≤Bn+w.length+1) (fun s=>mz L s.1) G ?_ N ((p:Int),(ps1++[cl]).map cv1) ⟨some p,ps1++[cl],rfl,.start h k1 cl,fun s=>?_⟩ ?_
 ·rintro _ nx ⟨po,ps,rfl,k,hb⟩ hnx
  dsimp only at hnx ⊢
  cases po with
  | none =>
   rw [show cvL none=(-1:Int) from rfl,show decide ((0:Int)≤-1)=false from rfl,chk_true (fun h=>by cases h),callG_false,Bool.false_and,cond_false]
   exact hK none ps k (fun p e=>by cases e) fun s=>by have:=hb s; omega
  | some p' =>
   obtain ⟨hp,hpw,_⟩:=k.at_ p' rfl
   have hpl:p' < ps.length:=by rw [k.len]; omega
   rw [cvL_nat,decide_eq_true (by omega),chk_true (fun _=>by simp; omega),callG_true,Int.toNat_natCast,getD_cv ps hpl,next_eq,call_some,Bool.true_and]
   by_cases hq:nxE (Sfa.st ps p').ed c=some q
   ·rw [hq,cvL_nat,decide_eq_true rfl,cond_true,chk_true (by simp; omega)]
    have hbp:=hb p'
    rw [set_eq ps p' c hf hpl (by omega),call_some,chk_true (by simp; omega)]
    subst hn
    have k2:=k.next h k1 hq
    have hst:Sfa.st (ps.set p' { Sfa.st ps p' with ed:=setE (Sfa.st ps p').ed c (ps0.length+1) }) p'={ Sfa.st ps p' with ed:=setE (Sfa.st ps p').ed c (ps0.length+1) }:=by rw [st_set ps _ hpl,if_pos rfl]
    rw [getD_cv _ (by simp; omega),hst]
    have hd:dpt L (Sfa.st ps p').lk+1≤dpt L (some p'):=by
     cases e:(Sfa.st ps p').lk with
     | none=>simp [dpt]
     | some r =>
      rw [k.lk p' hp] at e
      have:=((chain_next h hp hpw).1 r e).2.2
      simp only [dpt]; omega
    refine hnx _ ⟨(Sfa.st ps p').lk,_,rfl,k2,fun s=>?_⟩ ?_
    ·rw [st_set ps _ hpl]
     split
     ·have:=setE_len (Sfa.st ps p').ed c (ps0.length+1)
      have:=hb p'
      simp only; omega
     ·have:=hb s; omega
    ·show mz L (cvL (Sfa.st ps p').lk) < mz L (cvL (some p'))
     rw [mz_cv,mz_cv]; omega
   ·have hne:cvL (nxE (Sfa.st ps p').ed c) ≠ (q:Int):=by
     intro e
     cases e2:nxE (Sfa.st ps p').ed c with
     | none=>rw [e2] at e; simp only [cvL] at e; omega
     | some r =>
      rw [e2] at e hq
      simp only [cvL] at e
      exact hq (congrArg some (by omega))
    rw [decide_eq_false hne,cond_false]
    exact hK (some p') ps k (fun p2 e=>by cases e; exact hq) fun s=>by have:=hb s; omega
 ·simp only [dpt]
  have:=hed s; omega
 ·show mz L (cvL (some p)) < N
  rw [mz_cv]; simp only [dpt]; omega
end
section
open Go.Sfa
theorem letv_eq {A Z:Type} (a:A) (k:A→Option Z):letv a k=k a:=rfl
theorem jp_good {S Z:Type} {F:S→Option Z} {m:(S→Option Z)→Option Z} {G:Option Z→Prop} (h:∀ K,(∀ s,K s=F s)→G (m K)):G (jp F m):=h F fun _=>rfl
theorem lnk_cv (ps:List Ps) {s t:Nat} (hs:s < ps.length) :
  List.set (ps.map cv1) s (delta_state.mk (((ps.map cv1).getD s (delta_state.mk 0 0 0 [])).long) (((ps.map cv1).getD s (delta_state.mk 0 0 0 [])).end_) (t:Int) (((ps.map cv1).getD s (delta_state.mk 0 0 0 [])).edges))=(lnk ps s t).map cv1:=by
 rw [getD_cv ps hs]
 exact set_cv ps s { Sfa.st ps s with lk:=some t }
theorem add_eq {w:B} {c:UInt8} {ps0:List Ps} {L:Nat→B} {last:Nat} (h:Inv w (vw ps0) L last) (hnl:ps0.length≤2 * w.length+1) (hw:w.length < 600) (hed:∀ s,(Sfa.st ps0 s).ed.length≤w.length * (w.length+1)) :
  ∃ ps' L',delta_automaton_add_i1 (c.toNat:Int) ((w.length+1:Nat):Int) (last:Int) (ps0.map cv1)=some ((ps0.length:Int),ps'.map cv1)∧Inv (w++[c]) (vw ps') L' ps0.length∧ps'.length≤ps0.length+2∧∀ s,(Sfa.st ps' s).ed.length≤(w.length+1) * (w.length+2):=by
 let G:Option (Int × List delta_state)→Prop:=fun r=>∃ ps' L',r=some ((ps0.length:Int),ps'.map cv1)∧Inv (w++[c]) (vw ps') L' ps0.length∧ps'.length≤ps0.length+2∧∀ s,(Sfa.st ps' s).ed.length≤(w.length+1) * (w.length+2)
 have hq1:w.length * (w.length+1)≤600 * 600:=Nat.mul_le_mul (by omega) (by omega)
 have hq2:w.length * (w.length+1)+w.length+1+w.length+1=(w.length+1) * (w.length+2):=by
  generalize w.length=n
  rw [Nat.add_mul,Nat.mul_add,Nat.mul_add]; omega
 obtain ⟨N,hN⟩:∃ N,Fuel=N:=⟨_,rfl⟩
 have hN2:1099511627776≤N:=hN ▸ fuel_ge
 show G (delta_automaton_add_i1 _ _ _ _)
 unfold delta_automaton_add_i1
 rw [hN]
 clear hN
 have e0:ps0.map cv1++[(delta_state.mk ((w.length+1:Nat):Int) ((w.length+1:Nat):Int) 0 [])]=(ps0++[nwS w 0]).map cv1:=by
  rw [List.map_append]; rfl
 rw [e0,chk_true (by simp; omega),letv_eq,List.length_map]
 refine jp_good fun K hK=>?_
 refine loop1_eq (c:=c) (nw:=nwS w 0) h rfl (by omega) (by omega) (w.length * (w.length+1)) (by omega) hed (show 0≤_ from Nat.zero_le _) N hN2 K G fun po ps k hpo hb=>?_
 rw [hK]
 dsimp only
 have hpsl:=k.len
 cases po with
 | none =>
  rw [show decide (cvL none < 0)=true from rfl,cond_true]
  exact ⟨ps,_,rfl,k.endNone h,by omega,fun s=>by have:=hb s; omega⟩
 | some p =>
  obtain ⟨hp,hpw⟩:=k.at_ p rfl
  have hpl:p < ps.length:=by omega
  obtain ⟨q,hq⟩:=Option.isSome_iff_exists.1 (hpo p rfl)
  have hq0:nxE (Sfa.st ps0 p).ed c=some q:=(k.below h hq).1
  have hqn:q < ps0.length:=(h.nx p c q hp hq0).1
  have hql:q < ps.length:=by omega
  have hlgp:(Sfa.st ps p).lg=(L p).length:=(k.lg p hp).trans (h.lg p hp)
  have hlpw:=hpw.length_le
  rw [cvL_nat,decide_eq_false (by omega),cond_false,chk_true (by simp; omega)]
  simp only [Int.toNat_natCast,getD_cv ps hpl]
  rw [next_eq,hq,call_some,cvL_nat,chk_true (by simp; omega),chk_true (by simp; omega)]
  simp only [Int.toNat_natCast,getD_cv ps hql]
  have e1:IntKind.i64.wrap ((cv1 (Sfa.st ps p)).long+1)=(((Sfa.st ps p).lg+1:Nat):Int):=wrap1 _ (by omega)
  simp only [e1]
  by_cases hlg:(Sfa.st ps q).lg=(Sfa.st ps p).lg+1
  ·rw [decide_eq_true (show (cv1 (Sfa.st ps q)).long=_ from congrArg Nat.cast hlg),cond_true,chk_true (by simp; omega),letv_eq]
   refine ⟨ps.set ps0.length (nwS w q),_,?_,k.endA h hq hlg hqn,by simp; omega,fun s=>?_⟩
   ·congr 2
    rw [getD_cv ps (by omega),k.new]
    exact set_cv ps ps0.length (nwS w q)
   ·rw [st_set _ _ (by omega)]
    split
    ·exact Nat.zero_le _
    ·have:=hb s; omega
  ·rw [decide_eq_false (show ¬ (cv1 (Sfa.st ps q)).long=_ from fun e=>hlg (Int.ofNat_inj.1 e)),cond_false,chk_true (by simp; omega),chk_true (by simp; omega)]
   have hbq:=hb q
   rw [chk_true (by simp [cv1,cvE]; omega)]
   have e2:ps.map cv1++[(delta_state.mk (((Sfa.st ps p).lg+1:Nat):Int) ((cv1 (Sfa.st ps q)).end_) ((cv1 (Sfa.st ps q)).link) ([]++((cv1 (Sfa.st ps q)).edges)))]=(ps++[cln ps p q]).map cv1:=by
    rw [List.map_append]; rfl
   rw [e2,chk_true (by simp; omega),letv_eq,List.length_map]
   refine jp_good fun K2 hK2=>?_
   refine loop2_eq (c:=c) h k hq hpsl (by omega) (by omega) (w.length * (w.length+1)+w.length+1) (by omega) (fun s=>?_) N hN2 (fun s=>K2 s.2) G fun po2 ps2 k2 hpo2 hb2=>?_
   ·rw [st_app]
    split
    ·exact hbq
    ·exact hb s
   ·dsimp only
    rw [hK2]
    have hl2:=k2.len
    rw [chk_true (by simp; omega),letv_eq,hpsl,lnk_cv ps2 (t:=ps0.length+1) (by omega)]
    have hll:(lnk ps2 q (ps0.length+1)).length=ps2.length:=by simp [lnk]
    rw [chk_true (by simp; omega),letv_eq,lnk_cv (lnk ps2 q (ps0.length+1)) (t:=ps0.length+1) (by omega)]
    refine ⟨lnk (lnk ps2 q (ps0.length+1)) ps0.length (ps0.length+1),_,rfl,k2.endB h k hq hqn hlg hpo2,by simp [lnk]; omega,fun s=>?_⟩
    obtain ⟨_,_,a3,_⟩:=lnk_st (lnk ps2 q (ps0.length+1)) (s:=ps0.length) (t:=ps0.length+1) (by omega) s
    obtain ⟨_,_,b3,_⟩:=lnk_st ps2 (s:=q) (t:=ps0.length+1) (by omega) s
    rw [a3,b3]
    have:=hb2 s
    omega
end
section
open Go.Sfa
theorem newAutomaton_eq (a:Str) (ha:a.length≤600):∃ ps L last,delta_newAutomaton a=some (ps.map cv1,((last:Nat):Int))∧Inv a (vw ps) L last∧ps.length≤2 * a.length+1:=by
 let G:Option (List delta_state × Int)→Prop:=fun r=>∃ ps L last,r=some (ps.map cv1,((last:Nat):Int))∧Inv a (vw ps) L last∧ps.length≤2 * a.length+1
 show G (delta_newAutomaton a)
 unfold delta_newAutomaton
 rw [letv_eq]
 refine jp_good fun K hK=>?_
 refine forL_good (S:=List delta_state × Int) (fun i l s=>∃ w ps L last,a=w++l∧i=w.length∧s=(ps.map cv1,((last:Nat):Int))∧Inv w (vw ps) L last∧ps.length≤2 * w.length+1∧∀ s,(Sfa.st ps s).ed.length≤w.length * (w.length+1)) G ?_ ?_ a 0 ([delta_state.mk 0 0 (-1) []],0) ⟨[],[s00],fun _=>[],0,rfl,rfl,rfl,.init,Nat.le_refl _,fun s=>?_⟩
 ·rintro i _ ⟨w,ps,L,last,e,_,rfl,h,hl,_⟩
  rw [List.append_nil] at e
  subst e
  dsimp only
  rw [hK]
  exact ⟨ps,L,last,rfl,h,hl⟩
 ·rintro i c l _ nx ⟨w,ps,L,last,e,rfl,rfl,h,hl,hb⟩ hnx
  have hw:w.length < 600:=by rw [e] at ha; simp at ha; omega
  obtain ⟨ps',L',e1,h',hl',hb'⟩:=add_eq (c:=c) h hl hw hb
  dsimp only
  rw [wrap1 _ (by omega)]
  rw [e1,call_some]
  exact hnx _ ⟨w++[c],ps',L',ps.length,by rw [e]; simp,by simp,rfl,h',by simp; omega,by simpa using hb'⟩
 ·have:Sfa.st [s00] s=s00:=by
   cases s with
   | zero=>rfl
   | succ s=>rfl
  rw [this]
  exact Nat.zero_le _
theorem longest_eq {a:Str} {ps:List Ps} {L:Nat→B} {last:Nat} (h:Inv a (vw ps) L last) (ha:a.length≤600) (t:Str) (ht:t.length≤600) (x:Int) :
  delta_automaton_longest_i1 t x (ps.map cv1)=some (((Sfa.bst a t).1:Int),((Sfa.bst a t).2:Int)):=by
 unfold delta_automaton_longest_i1
 rw [jp_eq]
 obtain ⟨N,hN⟩:∃ N,Fuel=N:=⟨_,rfl⟩
 have hN2:1099511627776≤N:=hN ▸ fuel_ge
 rw [hN]
 clear hN
 refine loopN_run (S:=Int × Int) (fun s=>∃ m q:Nat,s=((m:Int),(q:Int))∧m≤t.length∧q < ps.length∧Top a (t.take m) (L q)) (fun s=>t.length - s.1.toNat) (fun _=>some (((Sfa.bst a t).1:Int),((Sfa.bst a t).2:Int))) ?_ N (0,0) ⟨0,0,rfl,by omega,h.pos,by simpa using top0 h⟩ (by simp only; omega)
 rintro _ nx ⟨m,q,rfl,hm,hq,htop⟩ hnx
 dsimp only
 have fin:(m=t.length ∨ ¬ Fc a (t.take (m+1)))→(chk (0≤(q:Int)∧(q:Int) < ((ps.map cv1).length:Int)) <| some (IntKind.i64.wrap ((((ps.map cv1).getD (q:Int).toNat (delta_state.mk 0 0 0 [])).end_) - (m:Int)),(m:Int)))=some (((Sfa.bst a t).1:Int),((Sfa.bst a t).2:Int)):=by
  intro hn
  rw [chk_true (by simp; omega)]
  have hf:=htop.first (h.fi q hq)
  obtain ⟨h1,h2⟩:=bst_walk hm hf hn
  have h3:=hf.1.1
  simp only [Int.toNat_natCast,getD_cv ps hq,h2]
  have h4:(cv1 (Sfa.st ps q)).end_=((vw ps).fi q:Int):=rfl
  rw [h4,wrapS (by omega) (by omega)]
  congr 2
  omega
 by_cases hc:m < t.length
 ·rw [decide_eq_true (by omega),cond_true,chk_true (by simp; omega),idxS_eq hc]
  simp only [Int.toNat_natCast,getD_cv ps hq]
  rw [next_eq,call_some]
  have htk:t.take (m+1)=t.take m++[t[m]]:=List.take_succ_eq_append_getElem hc
  cases hx:nxE (Sfa.st ps q).ed t[m] with
  | none =>
   rw [show decide (cvL none < 0)=true from rfl,cond_true]
   have fin2:=fin (.inr ?_)
   ·simpa only [Int.toNat_natCast,getD_cv ps hq] using fin2
   rw [htk]
   exact htop.no (h.nx0 q _ hq hx)
  | some r =>
   obtain ⟨hr,htr⟩:=h.nx q _ r hq hx
   rw [cvL_nat,decide_eq_false (by omega),cond_false,wrap1 m (by omega)]
   refine hnx _ ⟨m+1,r,rfl,hc,hr,?_⟩ (by simp only [Int.toNat_natCast]; omega)
   rw [htk]
   exact htop.go htr
 ·rw [decide_eq_false (by omega),cond_false]
  exact fin (.inl (by omega))
end
section
open Go.Sfa
theorem lcp_cpl:∀ a b:Str,lcp a b=cpl a b
 | [],b=>by simp [lcp,cpl]
 | x::a,[]=>by simp [lcp,cpl]
 | x::a,y::b=>by
  simp only [lcp,cpl]
  rw [lcp_cpl a b]
theorem bst_scan {a b:Str}:∀ (r:Str) (k:Nat),a.drop k=r→Go.Md.bst b r k (scan a b k)=scan a b (k+r.length)
 | [],k,_=>rfl
 | x::r,k,h=>by
  obtain ⟨hi,hd⟩:=drop_cons h
  have:=bst_scan (b:=b) r (k+1) hd
  simp only [Go.Md.bst,List.length_cons]
  rw [show k+(r.length+1)=k+1+r.length by omega,← this]
  simp only [scan]
  rw [h,lcp_cpl]
theorem best_bst (a b:Str):best a b=Sfa.bst a b:=by
 have:=bst_scan (b:=b) a 0 List.drop_zero
 unfold best Sfa.bst
 rw [Nat.zero_add] at this
 exact this
theorem take_snoc (b:Str) {f j:Nat} (h:f≤j) (hj:j < b.length):(b.drop f).take (j - f)++(b.drop j).take 1=(b.drop f).take (j+1 - f):=by
 have e:(b.drop j).take 1=((b.drop f).drop (j - f)).take 1:=by rw [List.drop_drop,Nat.add_sub_cancel' h]
 rw [e,show j+1 - f=(j - f)+1 by omega,List.take_add]
theorem dataP_cut (b:Str) {f j:Nat} (h:f≤j) (hj:j≤b.length):dataP ((b.drop f).take (j - f))=if f < j then [⟨0,0,(b.drop f).take (j - f)⟩] else []:=by
 unfold dataP
 have hl:((b.drop f).take (j - f)).length=j - f:=by simp; omega
 by_cases e:f < j
 ·rw [if_pos e,if_neg fun h=>by rw [h] at hl; simp at hl; omega]
 ·rw [if_neg e,if_pos (List.length_eq_zero_iff.1 (by omega))]
theorem make_loop {Z:Type} (a b:Str) (ha:a.length≤600) (hb:b.length≤600) {ps:List Ps} {L:Nat→B} {last:Nat} (h:Inv a (vw ps) L last) (K:Int × List Pc→Option Z) (R:List Pc→Option Z)
  (hK:∀ (f:Nat) o,f≤b.length→o.length≤b.length→K ((f:Int),o)=R (o++dataP ((b.drop f).take (b.length - f)))):∀ (n N j f:Nat) (o:List Pc),n≤N→b.length - j < n→j≤b.length→f≤j→o.length≤f →
 loopN N (fun s nx_99 k_98 =>
  match s with
  | (from_86,at_87,o5_88) =>
   bif decide (at_87 < (b.length:Int)) then
    chk (0≤at_87∧at_87≤(b.length:Int)) <|
    call (delta_automaton_longest_i1 (List.drop at_87.toNat b) (last:Int) (ps.map cv1)) fun r_101 =>
    bif decide (r_101.2 < 8) then
     nx_99 (from_86,IntKind.i64.wrap (at_87+1),o5_88)
    else
    jp (S:=List api_Piece) (fun o5_104 =>
     chk ((o5_104++[(api_Piece.mk r_101.1 r_101.2 [])]).length≤274877906944) <|
     nx_99 (IntKind.i64.wrap (at_87+r_101.2),IntKind.i64.wrap (at_87+r_101.2),o5_104++[(api_Piece.mk r_101.1 r_101.2 [])])) fun k_105 =>
    bif decide (from_86 < at_87) then
     chk (0≤from_86∧from_86≤(b.length:Int)∧0≤at_87∧at_87≤(b.length:Int)∧from_86≤at_87) <|
     chk ((o5_88++[(api_Piece.mk 0 0 (List.take (at_87.toNat - from_86.toNat) (List.drop from_86.toNat b)))]).length≤274877906944) <|
     k_105 (o5_88++[(api_Piece.mk 0 0 (List.take (at_87.toNat - from_86.toNat) (List.drop from_86.toNat b)))])
    else
    k_105 o5_88
   else
   k_98 (from_86,at_87,o5_88)) ((f:Int),(j:Int),o) (fun s=>match s with
  | (from_86,at_87,o5_88) =>
   K (from_86,o5_88))=R (o++mkP a n (b.drop j) ((b.drop f).take (j - f))):=by
 intro n
 induction n with
 | zero=>intro N j f o _ h; omega
 | succ n ih =>
  intro N j f o hN hj hjb hf ho
  obtain ⟨N,rfl⟩:∃ N',N=N'+1:=⟨N - 1,by omega⟩
  unfold loopN
  dsimp only
  by_cases hlt:j < b.length
  rotate_left
  ·obtain rfl:j=b.length:=by omega
   rw [decide_eq_false (by omega),cond_false]
   simp only [mkP]
   rw [if_pos (List.drop_eq_nil_of_le (by omega)),hK f o hf (by omega)]
  ·rw [decide_eq_true (by omega),cond_true,chk_true (by omega)]
   simp only [Int.toNat_natCast]
   rw [longest_eq h ha (b.drop j) (by simp; omega),call_some]
   have hne:¬ b.drop j=[]:=by rw [List.drop_eq_nil_iff]; omega
   have hb':=best_ok a (b.drop j)
   rw [List.length_drop] at hb'
   simp only [mkP]
   rw [if_neg hne,← best_bst]
   generalize best a (b.drop j)=p at hb' ⊢
   obtain ⟨at_,long⟩:=p
   dsimp only at hb' ⊢
   by_cases h8:long < 8
   ·rw [decide_eq_true (by omega),cond_true,if_pos h8,wrap1 j (by omega),take_snoc b hf hlt,List.drop_drop]
    exact ih N (j+1) f o (by omega) (by omega) (by omega) (by omega) ho
   ·rw [decide_eq_false (by omega),cond_false,if_neg h8,jp_eq,wrapS (by omega) (by omega),show (j:Int)+(long:Int)=((j+long:Nat):Int) by omega,List.drop_drop,dataP_cut b hf hjb]
    have z:(b.drop (j+long)).take (j+long - (j+long))=[]:=by simp
    by_cases he:f < j
    ·rw [if_pos he,decide_eq_true (by omega),cond_true,chk_true (by omega),chk_true (by simp; omega)]
     dsimp only
     rw [chk_true (by simp; omega)]
     refine (ih N (j+long) (j+long) ((o++[⟨0,0,(b.drop f).take (j - f)⟩])++[⟨at_,long,[]⟩]) (by omega) (by omega) (by omega) (by omega) (by simp; omega)).trans ?_
     rw [z]; simp
    ·rw [if_neg he,decide_eq_false (by omega),cond_false]
     dsimp only
     rw [chk_true (by simp; omega)]
     refine (ih N (j+long) (j+long) (o++[⟨at_,long,[]⟩]) (by omega) (by omega) (by omega) (by omega) (by simp; omega)).trans ?_
     rw [z]; simp
theorem Make_eq (a b:Str) (ha:a.length≤600) (hb:b.length≤600):delta_Make a b=some (⟨(a.length:Int),(b.length:Int),sumS a,sumS b,piecesOf a b⟩,0):=by
 unfold delta_Make
 rw [bif_f (by rw [decide_eq_false (by omega),decide_eq_false (by omega)]; rfl),disk_SumOf_eq,call_some,disk_SumOf_eq,call_some]
 obtain ⟨ps,L,last,e,h,_⟩:=newAutomaton_eq a ha
 rw [e,call_some]
 obtain ⟨N,hN⟩:∃ N,Fuel=N:=⟨_,rfl⟩
 have hN2:1099511627776≤N:=hN ▸ fuel_ge
 rw [hN]
 clear hN
 obtain ⟨h1,h2,h3,h4⟩:=mkP_ok a (b.length+1) b [] (by omega)
 rw [if_pos rfl] at h2
 have hl:(piecesOf a b).length≤600:=by unfold piecesOf; omega
 rw [jp_eq]
 dsimp only
 have:=make_loop a b ha hb h (fun s=>jp (S:=List api_Piece) (fun o5_58 =>
    bif decide (5000 < (o5_58.length:Int)) then
     some ((api_Delta.mk 0 0 [] [] []),4)
    else
    some ((api_Delta.mk (a.length:Int) (b.length:Int) (sumS a) (sumS b) o5_58),0)) fun k_59 =>
   bif decide (s.1 < (b.length:Int)) then
    chk (0≤s.1∧s.1≤(b.length:Int)) <|
    chk ((s.2++[(api_Piece.mk 0 0 (List.drop s.1.toNat b))]).length≤274877906944) <|
    k_59 (s.2++[(api_Piece.mk 0 0 (List.drop s.1.toNat b))])
   else
   k_59 s.2) (fun l=>bif decide (5000 < (l.length:Int)) then
     some ((api_Delta.mk 0 0 [] [] []),4)
    else
    some ((api_Delta.mk (a.length:Int) (b.length:Int) (sumS a) (sumS b) l),(0:Int))) (fun f o hf ho=>?_) (b.length+1) N 0 0 [] (by omega) (by omega) (by omega) (by omega) (by simp)
 ·refine this.trans ?_
  rw [List.nil_append,List.drop_zero,show List.take (0 - 0) b=[] from rfl,show mkP a (b.length+1) b []=piecesOf a b from rfl,decide_eq_false (by omega),cond_false]
 ·dsimp only
  rw [jp_eq,dataP_cut b hf (Nat.le_refl _)]
  by_cases e:f < b.length
  ·rw [decide_eq_true (by omega),cond_true,if_pos e,chk_true (by omega),chk_true (by simp; omega)]
   simp only [Int.toNat_natCast]
   rw [show List.take (b.length - f) (List.drop f b)=List.drop f b from List.take_of_length_le (by simp)]
  ·rw [decide_eq_false (by omega),cond_false,if_neg e,List.append_nil]
end
def mkD (a b:Str):api_Delta:=⟨(a.length:Int),(b.length:Int),sumS a,sumS b,piecesOf a b⟩
theorem mkD_ok {a b:Str} (ha:a.length≤600) (hb:b.length≤600):Dok (mkD a b):=Delta_dok a b ha hb
theorem and127u:∀ c:UInt8,bitsI .and .u8 (c.toNat:Int) 127=((c.toNat % 128:Nat):Int):=u8all (by decide +kernel)
theorem orI_nat (n:Nat) (c:UInt8) (i:Nat) (hi:i≤4) (h:n < 2 ^ (7 * i)):orI (n:Int) c i=((n+c.toNat % 128 * 2 ^ (7 * i):Nat):Int):=by
 have hp:2 ^ (7 * i)≤2 ^ 28:=Nat.pow_le_pow_right (by decide) (by omega)
 have hc:c.toNat % 128≤127:=by omega
 have hm:c.toNat % 128 * 2 ^ (7 * i)≤127 * 2 ^ 28:=Nat.mul_le_mul hc hp
 unfold orI
 have e00:IntKind.i64.wrap ((c.toNat % 128:Nat):Int)=((c.toNat % 128:Nat):Int):=wrapS (by omega) (by omega)
 rw [and127u,wrap7 i (by omega),e00]
 have hs:shI .i64 (7 * (i:Int))=7 * i:=by
  unfold shI
  simp only [IntKind.bits]
  omega
 rw [hs]
 have e0:((c.toNat % 128:Nat):Int) * 2 ^ (7 * i)=((c.toNat % 128 * 2 ^ (7 * i):Nat):Int):=by
  rw [Int.natCast_mul,Int.natCast_pow]; rfl
 rw [e0,wrapS (by omega) (by omega)]
 generalize hq:c.toNat % 128=q at *
 generalize hw:2 ^ (7 * i)=w at *
 show IntKind.i64.wrap (((BitVec.ofInt 64 (n:Int) ||| BitVec.ofInt 64 ((q * w:Nat):Int)).toNat:Nat):Int)=_
 rw [BitVec.toNat_or,BitVec.toNat_ofInt,BitVec.toNat_ofInt]
 have e1:((n:Int) % ((2 ^ 64:Nat):Int)).toNat=n:=by omega
 have e2:(((q * w:Nat):Int) % ((2 ^ 64:Nat):Int)).toNat=q * w:=by omega
 have e3:n ||| q * w=n+q * w:=by
  have:=Nat.two_pow_add_eq_or_of_lt (i:=7 * i) (b:=n) (by rw [hw]; exact h) q
  rw [hw] at this
  rw [Nat.or_comm,Nat.mul_comm q w,← this,Nat.add_comm]
 rw [e1,e2,e3]
 exact wrapS (by omega) (by omega)
theorem u8_of (n:Nat) (h:n < 256):(UInt8.ofNat n).toNat=n:=by simp; omega
theorem numS_last {m i n acc:Nat} {r:Str} (hm:1≤m) (hn:n < 128) (hi:i≤4) (ha:acc < 2 ^ (7 * i)) (h0:i=0 ∨ 0 < n):numS m i (acc:Int) (UInt8.ofNat n::r)=some (((acc+n * 2 ^ (7 * i):Nat):Int),r):=by
 obtain ⟨m,rfl⟩:∃ k,m=k+1:=⟨m - 1,by omega⟩
 unfold numS
 rw [u8_of n (by omega),if_pos hn,if_neg (by omega),orI_nat acc _ i hi ha,u8_of n (by omega),Nat.mod_eq_of_lt hn]
theorem numS_grp:∀ (k:Nat) {m i n acc:Nat} {r:Str},k+1≤m→n < 128 ^ (k+1)→i+k≤4→acc < 2 ^ (7 * i)→(i=0 ∨ 0 < n)→numS m i (acc:Int) (grp k n++r)=some (((acc+n * 2 ^ (7 * i):Nat):Int),r)
 | 0,m,i,n,acc,r,hm,hn,hi,ha,h0=>by
  have:n < 128:=by simpa using hn
  have e:grp 0 n=[UInt8.ofNat n]:=by simp only [grp,Nat.mod_eq_of_lt this]
  rw [e]
  exact numS_last hm this (by omega) ha h0
 | k+1,m,i,n,acc,r,hm,hn,hi,ha,h0=>by
  simp only [grp]
  by_cases h:n < 128
  ·rw [if_pos h]
   exact numS_last (by omega) h (by omega) ha h0
  ·rw [if_neg h]
   obtain ⟨m,rfl⟩:∃ k,m=k+1:=⟨m - 1,by omega⟩
   rw [List.cons_append]
   unfold numS
   have e:(UInt8.ofNat (n % 128+128)).toNat=n % 128+128:=u8_of _ (by omega)
   have e2:(n % 128+128) % 128=n % 128:=by omega
   rw [e,if_neg (by omega),orI_nat acc _ i (by omega) ha,e,e2]
   have hp:2 ^ (7 * (i+1))=128 * 2 ^ (7 * i):=by rw [show 7 * (i+1)=7+7 * i by omega,Nat.pow_add]
   have hle:n % 128 * 2 ^ (7 * i)≤127 * 2 ^ (7 * i):=Nat.mul_le_mul_right _ (by omega)
   have hd:n / 128 < 128 ^ (k+1):=by
    rw [Nat.pow_succ] at hn
    rw [Nat.div_lt_iff_lt_mul (by decide)]; exact hn
   rw [numS_grp k (by omega) hd (by omega) (by omega) (.inr (by omega)),hp]
   congr 2
   have:n=n / 128 * 128+n % 128:=by omega
   have e3:n * 2 ^ (7 * i)=n / 128 * (128 * 2 ^ (7 * i))+n % 128 * 2 ^ (7 * i):=by
    conv=>lhs; rw [this]
    rw [Nat.add_mul,Nat.mul_assoc]
   rw [e3]
   omega
theorem num_grp {n:Int} (h0:0≤n) (h1:n < 268435456) (r:Str):num (grpS n++r)=some (n,r):=by
 unfold num grpS
 have:=numS_grp 3 (m:=5) (i:=0) (n:=n.toNat) (acc:=0) (r:=r) (by omega) (by simp; omega) (by omega) (by simp) (.inl rfl)
 refine Eq.trans this ?_
 congr 2
 simp; omega
theorem cutS_app (x r:Str):cutS (x.length:Int) (x++r)=some (x,r):=by
 unfold cutS
 rw [if_pos (by simp; omega),Int.toNat_natCast,List.take_left,List.drop_left]
theorem be_snoc (x:Str) (c:UInt8):be (x++[c])=be x * 256+c.toNat:=by simp [be]
theorem be_raw8 {n:Nat} (h:n < 18446744073709551616):be (raw8 n)=n:=by
 have go:∀ j,j≤8→be ((List.range j).map fun i=>UInt8.ofNat (n / 2 ^ (56 - 8 * i) % 256))=n / 2 ^ (64 - 8 * j):=by
  intro j
  induction j with
  | zero =>
   intro _
   show 0=_
   rw [Nat.div_eq_of_lt (by simpa using h)]
  | succ j ih =>
   intro hj
   rw [List.range_succ,List.map_append,List.map_cons,List.map_nil,be_snoc,ih (by omega),u8_of _ (Nat.mod_lt _ (by decide))]
   have e:2 ^ (64 - 8 * j)=2 ^ (56 - 8 * j) * 256:=by rw [show 64 - 8 * j=(56 - 8 * j)+8 by omega,Nat.pow_add]
   rw [e,← Nat.div_div_eq_div_mul,show 64 - 8 * (j+1)=56 - 8 * j by omega]
   omega
 have:=go 8 (Nat.le_refl _)
 simpa [raw8] using this
theorem dg_hv:∀ c:UInt8,isHx c=true→dg (hv1 c)=c:=u8all (by decide +kernel)
theorem hx_hv:∀ (k:Nat) (s:Str),s.length=k→(∀ c ∈ s,isHx c=true)→hx k (hv s)=s
 | 0,s,h,_=>by rw [List.length_eq_zero_iff.1 h]; rfl
 | k+1,s,h,ha=>by
  rcases List.eq_nil_or_concat s with rfl | ⟨x,c,rfl⟩
  ·simp at h
  ·rw [List.concat_eq_append] at h ha ⊢
   have e:hv (x++[c])=hv x * 16+hv1 c:=by simp [hv]
   have hc:=ha c (by simp)
   have:=hv1_lt c hc
   unfold hx
   rw [e,show (hv x * 16+hv1 c) / 16=hv x by omega,show (hv x * 16+hv1 c) % 16=hv1 c by omega,dg_hv c hc,hx_hv k x (by simpa using h) fun c hc=>ha c (by simp [hc])]
theorem isS_iff {s:Str} (h:isS s=true):s.length=16∧∀ c ∈ s,isHx c=true:=by
 unfold isS at h
 rw [Bool.and_eq_true,List.all_eq_true,decide_eq_true_iff] at h
 exact ⟨by omega,h.1⟩
theorem hv_lt16 {s:Str} (h:isS s=true):hv s < 18446744073709551616:=by
 obtain ⟨h1,h2⟩:=isS_iff h
 have:=hv_lt s h2 16 (by omega)
 rw [List.take_of_length_le (by omega)] at this
 exact this
theorem sum8_raw {s:Str} (h:isS s=true) (r:Str):sum8 (raw8 (hv s)++r)=some (s,r):=by
 unfold sum8
 have:=cutS_app (raw8 (hv s)) r
 rw [raw8_len] at this
 rw [show (8:Int)=((8:Nat):Int) from rfl,this]
 obtain ⟨h1,h2⟩:=isS_iff h
 show some (hx 16 (be (raw8 (hv s))),r)=some (s,r)
 rw [be_raw8 (hv_lt16 h),hx_hv 16 s h1 h2]
theorem pc1_pp {p:Pc} {old:Int} (ho:old≤65536) (h:Pok old p) (hd:p.Data.length≤65536) (r:Str):pc1 (pp p++r)=some (p,r):=by
 obtain ⟨at_,long,data⟩:=p
 rcases h with ⟨h1,h2,h3⟩ | ⟨h1,h2,h3,h4⟩
 ·dsimp only at h1 h2 h3 hd
  subst h2 h3
  unfold pp
  dsimp only
  rw [if_neg h1]
  simp only [List.cons_append,List.nil_append,List.append_assoc]
  unfold pc1
  dsimp only
  rw [if_neg (by decide),if_pos rfl,num_grp (by omega) (by omega)]
  simp only [Option.bind_some,cutS_app,if_neg h1]
 ·dsimp only at h1 h2 h3 h4
  subst h1
  unfold pp
  dsimp only
  rw [if_pos rfl]
  simp only [List.cons_append,List.nil_append,List.append_assoc]
  unfold pc1
  dsimp only
  rw [if_pos rfl,num_grp (by omega) (by omega)]
  simp only [Option.bind_some]
  rw [num_grp (by omega) (by omega)]
  rfl
theorem pcs_pp {old:Int} (ho:old≤65536) (r:Str):∀ l:List Pc,(∀ p ∈ l,Pok old p∧p.Data.length≤65536)→pcs l.length (l.flatMap pp++r)=some (l,r)
 | [],_=>rfl
 | p::l,h=>by
  obtain ⟨h1,h2⟩:=h p (by simp)
  simp only [List.length_cons,List.flatMap_cons,List.append_assoc,pcs]
  rw [pc1_pp ho h1 h2,Option.bind_some,pcs_pp ho r l fun q hq=>h q (by simp [hq])]
  rfl
theorem tot_le {old:Int} (ho:old≤65536):∀ (l:List Pc) (n:Int),(∀ p ∈ l,Pok old p∧p.Data.length≤1048576)→0≤n→n+1048576 * (l.length:Int)≤4611686018427387904→(peL old l n).2=0→0≤tot l∧n+tot l≤65536
 | [],n,_,h0,_,h=>by
  unfold peL at h
  by_cases hc:65536 < n
  ·rw [decide_eq_true hc] at h; cases h
  ·simp [tot]; omega
 | p::l,n,hp,h0,h1,h=>by
  have ht:tot (p::l)=psz p+tot l:=by simp [tot]
  obtain ⟨hp1,hp2⟩:=hp p (by simp)
  have hl:((p::l).length:Int)=(l.length:Int)+1:=by simp
  rw [hl] at h1
  have hq:0≤psz p∧psz p≤1048576:=by
   unfold psz
   rcases hp1 with ⟨a,_,_⟩ | ⟨a,_,c,_⟩
   ·rw [if_neg a]; omega
   ·rw [if_pos a]; omega
  have hrec:(peL old l (n+psz p)).2=0:=by
   unfold peL at h
   rcases hp1 with ⟨a,b,c⟩ | ⟨a,b,c,d⟩
   ·rw [decide_eq_false a,b,c] at h
    simp only [Bool.not_false,cond_true,decide_true,Bool.not_true,Bool.or_self,cond_false] at h
    have e:psz p=(p.Data.length:Int):=if_neg a
    rw [wrapS (by omega) (by omega)] at h
    rw [e]; exact h
   ·have e:psz p=p.Long:=if_pos a
    rw [decide_eq_true a,decide_eq_false (show ¬ p.At < 0 by omega),decide_eq_false (show ¬ p.Long < 1 by omega),decide_eq_false (show ¬ old < p.At by omega),decide_eq_false (show ¬ old - p.At < p.Long by omega)] at h
    simp only [Bool.not_true,cond_false,Bool.or_self] at h
    rw [wrapS (by omega) (by omega)] at h
    rw [e]; exact h
  have:=tot_le ho l (n+psz p) (fun q hq=>hp q (by simp [hq])) (by omega) (by omega) hrec
  rw [ht]; omega
theorem tot_mem:∀ (l:List Pc) {old:Int},(∀ p ∈ l,Pok old p)→(∀ p ∈ l,(p.Data.length:Int)≤tot l)∧((l.flatMap pp).length:Int)≤9 * (l.length:Int)+tot l∧0≤tot l
 | [],_,_=>by simp [tot]
 | p::l,old,h=>by
  have ht:tot (p::l)=psz p+tot l:=by simp [tot]
  obtain ⟨i1,i2,i3⟩:=tot_mem l fun q hq=>h q (by simp [hq])
  have hl:((p::l).length:Int)=(l.length:Int)+1:=by simp
  have hq:0≤psz p∧(p.Data.length:Int)≤psz p∧((pp p).length:Int)≤9+psz p:=by
   have g1:=grpS_len p.At
   have g2:=grpS_len p.Long
   have g3:=grpS_len (p.Data.length:Int)
   unfold psz pp
   rcases h p (by simp) with ⟨a,_,_⟩ | ⟨a,_,c,_⟩
   ·rw [if_neg a,if_neg a]
    simp only [List.length_append,List.length_cons,List.length_nil]; omega
   ·rw [if_pos a,if_pos a,a]
    simp only [List.length_append,List.length_cons,List.length_nil]; omega
  rw [ht,hl]
  simp only [List.flatMap_cons,List.length_append,List.mem_cons]
  refine ⟨?_,by omega,by omega⟩
  rintro q (rfl | hq')
  ·omega
  ·have:=i1 q hq'; omega
theorem Dok.tot {d:api_Delta} (h:Dok d):0≤tot d.Pieces∧tot d.Pieces≤65536:=by
 obtain ⟨o1,o2,n1,n2,s1,s2,l1,hp⟩:=de_ok h.ok
 have hpe:(pe d.Pieces d.Old).2=0:=by
  have:=h.ok
  unfold de at this
  by_cases c1:((((decide (d.Old < 0)) || (decide (65536 < d.Old))) || (decide (d.New < 0))) || (decide (65536 < d.New)))=true
  ·rw [c1] at this; cases this
  ·rw [Bool.not_eq_true] at c1
   rw [c1,s1,s2] at this
   simp only [cond_false,Bool.not_true,Bool.or_self] at this
   by_cases e:(pe d.Pieces d.Old).2=0
   ·exact e
   ·rw [decide_eq_false e] at this; exact this
 unfold pe at hpe
 rw [bif_f (by rw [decide_eq_false (by omega),decide_eq_false (by omega)]; rfl),bif_f (decide_eq_false (by omega))] at hpe
 have:=tot_le o2 d.Pieces 0 (fun p hp'=>⟨hp p hp',h.sm p hp'⟩) (by omega) (by omega) hpe
 omega
theorem full_print {d:api_Delta} (h:Dok d):fullS (printS d)=some (d,bodyS d,sumS (bodyS d)):=by
 obtain ⟨o1,o2,n1,n2,s1,s2,l1,hp⟩:=de_ok h.ok
 obtain ⟨t1,t2⟩:=h.tot
 obtain ⟨m1,m2,m3⟩:=tot_mem d.Pieces hp
 have e:printS d=[79,70,68,49]++(grpS d.Old++(grpS d.New++(raw8 (hv d.OldSum)++(raw8 (hv d.NewSum)++(grpS (d.Pieces.length:Int)++(d.Pieces.flatMap pp++(raw8 (hv (sumS (bodyS d)))++[]))))))):=by
  unfold printS bodyS headS
  simp only [List.append_assoc,List.append_nil]
 have eb:(printS d).take ((printS d).length - (raw8 (hv (sumS (bodyS d)))++[]).length)=bodyS d:=by
  unfold printS
  rw [List.append_nil,List.length_append,Nat.add_sub_cancel,List.take_left]
 unfold fullS
 rw [e]
 have c4:=cutS_app [79,70,68,49] (grpS d.Old++(grpS d.New++(raw8 (hv d.OldSum)++(raw8 (hv d.NewSum)++(grpS (d.Pieces.length:Int)++(d.Pieces.flatMap pp++(raw8 (hv (sumS (bodyS d)))++[])))))))
 rw [show ((([79,70,68,49]:Str).length:Nat):Int)=4 from rfl] at c4
 rw [c4,Option.bind_some]
 dsimp only
 rw [if_pos rfl,num_grp o1 (by omega),Option.bind_some,num_grp n1 (by omega),Option.bind_some,sum8_raw s1,Option.bind_some,sum8_raw s2,Option.bind_some,num_grp (by omega) (by omega),Option.bind_some]
 dsimp only
 rw [Int.toNat_natCast,pcs_pp o2 _ d.Pieces (fun p hp'=>⟨hp p hp',by have:=m1 p hp'; omega⟩),Option.bind_some,sum8_raw (isS_sumS _),Option.bind_some]
 dsimp only
 rw [if_pos rfl,← e,eb]
theorem parse_print {d:api_Delta} (h:Dok d):parseS (printS d)=(d,0):=by
 obtain ⟨o1,o2,n1,n2,s1,s2,l1,hp⟩:=de_ok h.ok
 obtain ⟨t1,t2⟩:=h.tot
 obtain ⟨m1,m2,m3⟩:=tot_mem d.Pieces hp
 have hl:(printS d).length≤2097152:=by
  have h1:=headS_len d
  unfold printS bodyS
  simp only [List.length_append,raw8_len]
  omega
 unfold parseS
 rw [if_neg (by omega),full_print h]
 dsimp only
 rw [if_neg (by simp),if_neg (by simp [h.ok])]
theorem law_dq (a b raw:Str) (d:api_Delta) (hs:∀ p ∈ d.Pieces,p.Data.length≤1048576):Law_DeltasPrint a b raw d=some true:=by
 unfold Law_DeltasPrint
 rw [landed_eq,call_some,Bool.not_true,cond_false]
 have rest:(call (Law_short a) fun r_12 =>
  call (Law_short b) fun r_13 =>
  call (delta_Make r_12 r_13) fun r_14 =>
  bif !decide (r_14.2=0) then
   some false
  else
  call (delta_Print r_14.1) fun r_15 =>
  call (delta_Parse r_15.1) fun r_16 =>
  callG (!((!decide (r_15.2=0)) || (!decide (r_16.2=0)))) (R_PrintDelta r_14.1) [] fun r_17 =>
  callG (!(((!decide (r_15.2=0)) || (!decide (r_16.2=0))) || (!decide (r_15.1=r_17)))) (Law_sameDelta r_16.1 r_14.1) false fun r_18 =>
  letv (((((!decide (r_15.2=0)) || (!decide (r_16.2=0))) || (!decide (r_15.1=r_17))) || (!r_18))) fun v_19 =>
  bif v_19 then
   some false
  else
  call (delta_Parse raw) fun r_21 =>
  call (R_ParseDelta raw) fun r_22 =>
  callG (decide (r_21.2=r_22.2)) (Law_sameDelta r_21.1 r_22.1) false fun r_23 =>
  some ((decide (r_21.2=r_22.2)) && r_23))=some true:=by
  rw [short_eq,call_some,short_eq,call_some]
  have ha:=short_len a
  have hb:=short_len b
  generalize a.take 600=a at ha ⊢
  generalize b.take 600=b at hb ⊢
  have M:delta_Make a b=some (mkD a b,0):=Make_eq a b ha hb
  have ok:=mkD_ok ha hb
  rw [M,call_some]
  simp only [decide_true,Bool.not_true,cond_false]
  rw [Print_ok ok,call_some]
  dsimp only
  rw [delta_Parse_eq,call_some,parse_print ok]
  simp only [decide_true,Bool.not_true,Bool.not_false,Bool.or_self,callG_some,cond_true,PrintDelta_ok ok,same_refl,letv_eq,cond_false,delta_Parse_eq,R_ParseDelta_eq,call_some,Bool.and_self]
 have dec:de d=0 ∨ de d ≠ 0:=Classical.em _
 rcases dec with h | h
 ·have ok:Dok d:=⟨h,hs⟩
  rw [Print_ok ok,call_some,jp_eq]
  dsimp only
  rw [DeltaError_eq,call_some,h]
  simp only [decide_true,Bool.not_true,cond_false]
  rw [delta_Parse_eq,call_some,parse_print ok]
  simp only [decide_true,Bool.not_true,Bool.not_false,Bool.or_self,callG_some,cond_true,PrintDelta_ok ok,same_refl,letv_eq,cond_false]
  exact rest
 ·rw [Print_no h,call_some,jp_eq]
  dsimp only
  rw [DeltaError_eq,call_some]
  simp only [decide_eq_false h,decide_true,Bool.not_true,Bool.not_false,Bool.or_self,cond_true,cond_false]
  exact rest
end Go.Md
