/- Plain lemmas on the models: the law's model answers true. -/
import Derived.Test.YtkekfenkeeiigaaDoorCtSf
set_option linter.unusedSimpArgs false
set_option linter.unusedVariables false
set_option linter.unusedSectionVars false
namespace Go.Md
open Go.Vc
section
variable {Z A S α:Type}
theorem call_some (x:A) (k:A→Option Z):call (some x) k=k x:=rfl
theorem callG_some (g:Bool) (x d:A) (k:A→Option Z):callG g (some x) d k=k (bif g then x else d):=by cases g <;> rfl
theorem callG_true (a:Option A) (d:A) (k:A→Option Z):callG true a d k=call a k:=rfl
theorem callG_false (a:Option A) (d:A) (k:A→Option Z):callG false a d k=k d:=rfl
theorem chk_true {p:Prop} [Decidable p] (h:p) (m:Option Z):chk p m=m:=if_pos h
theorem jp_eq (F:S→Option Z) (m:(S→Option Z)→Option Z):jp F m=m F:=rfl
theorem idxS_eq {s:Str} {i:Nat} (h:i < s.length) (k:Int→Option Z):idxS s i k=k (s[i].toNat:Int):=by
 unfold idxS
 simp [h]
theorem idx_eq {l:List α} {i:Nat} (h:i < l.length) (k:α→Option Z):idx l i k=k l[i]:=by
 unfold idx
 simp [h]
theorem forL_all {f:Nat→α→Unit→(Unit→Option Z)→(Unit→Option Z)→Option Z} {z:Z} (q:α→Bool) (hf:∀ i x nx k,f i x () nx k=bif q x then nx () else some z) (k:Unit→Option Z) :
  ∀ (l:List α) (i:Nat),forL l i f () k=bif l.all q then k () else some z
 | [],i=>rfl
 | x::l,i=>by
  unfold forL
  rw [hf,forL_all q hf k l (i+1),List.all_cons]
  cases q x <;> rfl
theorem forL_run {f:Nat→α→S→(S→Option Z)→(S→Option Z)→Option Z} {k:S→Option Z} (inv:Nat→List α→S→Prop) (R:Nat→List α→S→Option Z)
  (h0:∀ i s,inv i [] s→k s=R i [] s) (h1:∀ i x l s nx,inv i (x::l) s→(∀ s',inv (i+1) l s'→nx s'=R (i+1) l s')→f i x s nx k=R i (x::l) s) :
  ∀ (l:List α) (i:Nat) (s:S),inv i l s→forL l i f s k=R i l s
 | [],i,s,h=>h0 i s h
 | x::l,i,s,h=>h1 i x l s _ h fun s' hs=>forL_run inv R h0 h1 l (i+1) s' hs
theorem loopN_run {f:S→(S→Option Z)→(S→Option Z)→Option Z} {k:S→Option Z} (inv:S→Prop) (mu:S→Nat) (R:S→Option Z)
  (h:∀ s nx,inv s→(∀ s',inv s'→mu s' < mu s→nx s'=R s')→f s nx k=R s):∀ (N:Nat) (s:S),inv s→mu s < N→loopN N f s k=R s
 | 0,s,_,hm=>by omega
 | N+1,s,hi,hm=>by
  unfold loopN
  exact h s _ hi fun s' hs' hlt=>loopN_run inv mu R h N s' hs' (by omega)
theorem forC_run {f:Nat→S→(S→Option Z)→(S→Option Z)→Option Z} {k:S→Option Z} (n:Nat) (inv:Nat→S→Prop) (R:Nat→S→Option Z)
  (h0:∀ s,inv n s→k s=R n s) (h1:∀ i s nx,i < n→inv i s→(∀ s',inv (i+1) s'→nx s'=R (i+1) s')→f i s nx k=R i s) :
  ∀ (m i:Nat) (s:S),m+i=n→inv i s→forC m i f s k=R i s
 | 0,i,s,e,h=>by
  obtain rfl:i=n:=by omega
  exact h0 s h
 | m+1,i,s,e,h=>by
  unfold forC
  exact h1 i s _ (by omega) h fun s' hs=>forC_run n inv R h0 h1 m (i+1) s' (by omega) hs
theorem condN (c:Bool) (x y:Z):(bif c then x else y)=bif !c then y else x:=by cases c <;> rfl
theorem bif_t {c:Bool} (h:c=true) (x y:Z):(bif c then x else y)=x:=by rw [h]; rfl
theorem bif_f {c:Bool} (h:c=false) (x y:Z):(bif c then x else y)=y:=by rw [h]; rfl
end
theorem wrapS {n:Int} (h1:-9223372036854775808≤n) (h2:n≤9223372036854775807):IntKind.i64.wrap n=n:=wrap64 h1 h2
theorem wrapN (n:Nat) (h:n≤9223372036854775807):IntKind.i64.wrap (n:Int)=n:=wrap64 (by omega) (by omega)
theorem wrap1 (i:Nat) (h:i < 9223372036854775807):IntKind.i64.wrap ((i:Int)+1)=((i+1:Nat):Int):=by rw [wrapS (by omega) (by omega)]; rfl
theorem fuel_ge:1099511627776≤Fuel:=Nat.le_refl _
theorem wrapU (n:Nat) (h:n < 18446744073709551616):IntKind.u64.wrap (n:Int)=n:=by
 unfold IntKind.wrap
 simp only [IntKind.bits,IntKind.signed,Bool.false_and,Bool.false_eq_true,if_false]
 omega
theorem wrapU8 (n:Int):IntKind.u8.wrap n=n % 256:=by
 unfold IntKind.wrap
 simp only [IntKind.bits,IntKind.signed,Bool.false_and,Bool.false_eq_true,if_false]
 omega
theorem wrapU_range (n:Int):∃ m:Nat,IntKind.u64.wrap n=m∧m < 18446744073709551616:=by
 refine ⟨(n % 18446744073709551616).toNat,?_,by omega⟩
 unfold IntKind.wrap
 simp only [IntKind.bits,IntKind.signed,Bool.false_and,Bool.false_eq_true,if_false]
 omega
theorem shr_eq (n c:Nat) (k:IntKind) (hc:c≤k.bits):Int.fdiv (n:Int) (2 ^ (shI k (c:Int)))=((n / 2 ^ c:Nat):Int):=by
 have:shI k (c:Int)=c:=by unfold shI; simp; omega
 rw [this,Int.fdiv_eq_ediv_of_nonneg _ (Int.le_of_lt (Int.pow_pos (by decide)))]
 rw [Int.natCast_ediv,Int.natCast_pow]; rfl
theorem and_mask (n c m:Nat) (h:n < 18446744073709551616) (hm:m=2 ^ c - 1) (hc:c < 64):bitsI .and .u64 (n:Int) (m:Int)=((n % 2 ^ c:Nat):Int):=by
 subst hm
 have h1:2 ^ c≤2 ^ 63:=Nat.pow_le_pow_right (by decide) (by omega)
 show IntKind.u64.wrap (((BitVec.ofInt 64 (n:Int) &&& BitVec.ofInt 64 ((2 ^ c - 1:Nat):Int)).toNat:Nat):Int)=_
 rw [BitVec.toNat_and,BitVec.toNat_ofInt,BitVec.toNat_ofInt]
 have e1:((n:Int) % ((2 ^ 64:Nat):Int)).toNat=n:=by omega
 have e2:(((2 ^ c - 1:Nat):Int) % ((2 ^ 64:Nat):Int)).toNat=2 ^ c - 1:=by omega
 rw [e1,e2,Nat.and_two_pow_sub_one_eq_mod]
 exact wrapU _ (Nat.lt_of_le_of_lt (Nat.mod_le _ _) h)
theorem forL_fold {Z S α:Type} (g:S→α→S) (k:S→Option Z):∀ (l:List α) (i:Nat) (s:S),forL l i (fun _ c s nx _=>nx (g s c)) s k=k (l.foldl g s)
 | [],_,_=>rfl
 | x::l,i,s=>by
  unfold forL
  exact forL_fold g k l (i+1) (g s x)
theorem set_map_range {α:Type} (n i:Nat) (f:Nat→α) (v:α):((List.range n).map f).set i v=(List.range n).map (fun j=>if j=i then v else f j):=by
 apply List.ext_getElem
 ·simp
 ·intro j h1 h2
  simp only [List.getElem_set,List.getElem_map,List.getElem_range]
  by_cases h:i=j
  ·subst h; simp
  ·rw [if_neg h,if_neg (Ne.symm h)]
theorem strOf_map {α:Type} (l:List α) (f:α→UInt8):Go.Vc.strOf (l.map fun x=>((f x).toNat:Int))=l.map f:=by
 unfold Go.Vc.strOf
 simp
def HXs:Str:=[48,49,50,51,52,53,54,55,56,57,97,98,99,100,101,102]
def dg (n:Nat):UInt8:=HXs.getD n 0
def hx:Nat→Nat→Str
 | 0,_=>[]
 | k+1,n=>hx k (n / 16)++[dg (n % 16)]
def hashI (h:Int) (c:UInt8):Int:=IntKind.u64.wrap ((bitsI .xor .u64 h (IntKind.u64.wrap (c.toNat:Int))) * 1099511628211)
def hashZ (s:Str):Int:=s.foldl hashI 14695981039346656037
def sumS (s:Str):Str:=hx 16 (hashZ s).toNat
theorem hashZ_nat (s:Str):∃ n:Nat,hashZ s=n∧n < 18446744073709551616:=by
 have:∀ (s:Str) (h:Int),(∃ n:Nat,h=n∧n < 18446744073709551616)→∃ n:Nat,s.foldl hashI h=n∧n < 18446744073709551616:=by
  intro s
  induction s with
  | nil=>exact fun h hh=>hh
  | cons c s ih=>exact fun h _=>ih _ (wrapU_range _)
 exact this s _ ⟨14695981039346656037,rfl,by decide⟩
theorem hx_length:∀ (k n:Nat),(hx k n).length=k
 | 0,_=>rfl
 | k+1,n=>by simp [hx,hx_length k]
theorem sumS_length (s:Str):(sumS s).length=16:=hx_length _ _
theorem idx_hx {Z:Type} (m:Nat) (h:m < 16) (k:Int→Option Z):idxS HXs (m:Int) k=k ((dg m).toNat:Int):=by
 rw [idxS_eq (by simpa [HXs] using h)]
 simp only [dg,List.getD_eq_getElem?_getD,List.getElem?_eq_getElem (show m < HXs.length by simpa [HXs] using h),Option.getD_some]
theorem hx16 (n:Nat):(List.range 16).map (fun j=>dg (n / 2 ^ (60 - 4 * j) % 16))=hx 16 n:=by
 simp only [hx,List.range,List.range.loop,List.map_cons,List.map_nil,Nat.div_div_eq_div_mul,List.nil_append,List.cons_append]
 simp
theorem disk_SumOf_eq (s:Str):disk_SumOf s=some (sumS s):=by
 obtain ⟨n,hn,hlt⟩:=hashZ_nat s
 unfold disk_SumOf
 obtain ⟨N,hN⟩:∃ N,Fuel=N:=⟨_,rfl⟩
 have hF:1099511627776≤N:=hN ▸ fuel_ge
 rw [hN]
 show forL s 0 (fun _ c h nx _=>nx (hashI h c)) 14695981039346656037 _=_
 rw [forL_fold]
 show jp _ (fun k_27=>loopN N _ _ _)=_
 rw [show s.foldl hashI 14695981039346656037=(n:Int) from hn]
 unfold jp
 let arr:=fun i:Nat=>(List.range 16).map fun j=>if j < i then ((dg (n / 2 ^ (60 - 4 * j) % 16)).toNat:Int) else 0
 refine (loopN_run (fun s=>∃ i:Nat,s.1=(i:Int)∧i≤16∧s.2=arr i) (fun s=>16 - s.1.toNat) (fun _=>some (sumS s)) ?_ N _ ⟨0,rfl,by omega,?_⟩ (by show 16 - Int.toNat 0 < N; simp; omega)).trans rfl
 ·rintro ⟨t,o⟩ nx ⟨i,h1,hi,h2⟩ hnx
  obtain rfl:t=i:=h1
  obtain rfl:o=arr i:=h2
  simp only [List.length_replicate]
  by_cases h:i < 16
  ·rw [bif_t (decide_eq_true (by omega))]
   have e1:IntKind.i64.wrap (60 - IntKind.i64.wrap (4 * (i:Int)))=((60 - 4 * i:Nat):Int):=by
    rw [wrapS (n:=4 * (i:Int)) (by omega) (by omega),wrapS (by omega) (by omega)]; omega
   rw [e1,chk_true (by omega),shr_eq _ _ _ (by simp only [IntKind.bits]; omega)]
   rw [show (15:Int)=((15:Nat):Int) from rfl,and_mask _ 4 15 (Nat.lt_of_le_of_lt (Nat.div_le_self _ _) hlt) (by decide) (by decide)]
   show idxS HXs _ _=_
   rw [idx_hx _ (Nat.mod_lt _ (by decide)),chk_true (by simp [arr]; omega),wrap1 i (by omega)]
   refine hnx _ ⟨i+1,rfl,by omega,?_⟩ ?_
   ·show List.set (arr i) (Int.toNat (i:Int)) _=_
    rw [Int.toNat_natCast]
    show ((List.range 16).map _).set i _=(List.range 16).map _
    rw [set_map_range]
    apply List.map_congr_left
    intro j _
    by_cases hj:j=i
    ·subst hj; rw [if_pos rfl,if_pos (by omega)]
    ·rw [if_neg hj]
     by_cases hj':j < i
     ·rw [if_pos hj',if_pos (by omega)]
     ·rw [if_neg hj',if_neg (by omega)]
   ·show 16 - Int.toNat ((i+1:Nat):Int) < 16 - Int.toNat (i:Int)
    rw [Int.toNat_natCast,Int.toNat_natCast]; omega
  ·rw [bif_f (decide_eq_false (by omega))]
   obtain rfl:i=16:=by omega
   show some (Go.Vc.strOf (arr 16))=_
   have:arr 16=(List.range 16).map fun j=>((dg (n / 2 ^ (60 - 4 * j) % 16)).toNat:Int):=by
    apply List.map_congr_left
    intro j hj
    rw [if_pos (List.mem_range.1 hj)]
   rw [this,strOf_map,hx16]
   unfold sumS
   rw [hn]; rfl
 ·show List.replicate 16 (0:Int)=_
  apply List.ext_getElem
  ·simp [arr]
  ·intro j h1 h2
   rw [List.getElem_replicate]
   simp only [arr,List.getElem_map,List.getElem_range]
   rfl
theorem u8all {p:UInt8→Prop} (h:∀ n:Fin 256,p (UInt8.ofNat n.val)) (c:UInt8):p c:=by
 have:=h ⟨c.toNat,c.toNat_lt⟩
 simpa using this
def isHx (c:UInt8):Bool:=(decide (48≤(c.toNat:Int)) && decide ((c.toNat:Int)≤57)) || (decide (97≤(c.toNat:Int)) && decide ((c.toNat:Int)≤102))
def isS (s:Str):Bool:=s.all isHx && decide ((s.length:Int)=16)
def hv1 (c:UInt8):Nat:=if c.toNat≤57 then c.toNat - 48 else c.toNat - 87
def hv (s:Str):Nat:=s.foldl (fun n c=>n * 16+hv1 c) 0
theorem hv1_lt (c:UInt8) (h:isHx c=true):hv1 c < 16:=by
 revert c
 exact u8all (by decide +kernel)
theorem hv_take (s:Str) (i:Nat) (h:i < s.length):hv (s.take (i+1))=hv (s.take i) * 16+hv1 s[i]:=by
 unfold hv
 rw [List.take_succ_eq_append_getElem h,List.foldl_append]
 rfl
theorem hv_lt (s:Str) (hs:∀ c ∈ s,isHx c=true):∀ i,i≤s.length→hv (s.take i) < 16 ^ i
 | 0,_=>by simp [hv]
 | i+1,h=>by
  have ih:=hv_lt s hs i (by omega)
  have h1:=hv1_lt s[i] (hs _ (List.getElem_mem _))
  rw [hv_take s i (by omega),Nat.pow_succ]
  omega
theorem delta_isSum_eq (s:Str):delta_isSum s=some (isS s):=by
 unfold delta_isSum
 rw [jp_eq]
 refine (forL_all (z:=false) (q:=isHx) (fun i x nx k=>?_) _ s 0).trans ?_
 ·rw [condN,Bool.not_not]; rfl
 ·unfold isS
  cases s.all isHx <;> rfl
theorem bytesOf_getD (s:Str) (i:Nat) (h:i < s.length):(bytesOf s).getD i 0=((s[i]).toNat:Int):=by
 unfold bytesOf
 rw [List.getD_eq_getElem?_getD,List.getElem?_map,List.getElem?_eq_getElem h]
 rfl
theorem lowA:∀ c:UInt8,isHx c=true→(decide (48≤(c.toNat:Int)) && decide ((c.toNat:Int)≤57))=true∧IntKind.u8.wrap ((c.toNat:Int) - 48)=hv1 c ∨
  (decide (48≤(c.toNat:Int)) && decide ((c.toNat:Int)≤57))=false∧internal_strconv_lower (c.toNat:Int)=some (c.toNat:Int)∧decide (97≤(c.toNat:Int))=true∧decide ((c.toNat:Int)≤122)=true∧IntKind.u8.wrap ((IntKind.u8.wrap ((c.toNat:Int) - 97))+10)=hv1 c :=
 u8all (by decide +kernel)
theorem wrapC4:IntKind.u64.wrap ((IntKind.u64.wrap (1 * 2 ^ (shI .u64 64))) - 1)=18446744073709551615:=by decide +kernel
theorem pow16_le (i:Nat) (h:i≤15):16 ^ i≤1152921504606846976:=Nat.le_trans (Nat.pow_le_pow_right (by decide) h) (by decide)
theorem ParseUint_hex (s:Str) (h:isS s=true):strconv_ParseUint s 16 64=some (hv s:Int):=by
 unfold isS at h
 rw [Bool.and_eq_true,List.all_eq_true,decide_eq_true_eq] at h
 obtain ⟨hs,hl⟩:=h
 have hl:s.length=16:=by omega
 unfold strconv_ParseUint internal_strconv_ParseUint
 rw [bif_f (decide_eq_false (by intro e; rw [e] at hl; simp at hl)),jp_eq]
 dsimp only
 rw [bif_t (c:=decide ((2:Int)≤16) && decide ((16:Int)≤36)) rfl,jp_eq]
 dsimp only
 rw [bif_f (c:=decide ((64:Int)=0)) rfl,bif_f (c:=decide ((64:Int) < 0) || decide ((64:Int) < 64)) rfl,jp_eq]
 dsimp only
 rw [bif_f (c:=decide ((16:Int)=10)) rfl,bif_t (c:=decide ((16:Int)=16)) rfl]
 have c1:IntKind.u64.wrap 64=64:=by decide
 have c2:IntKind.u64.wrap 16=16:=by decide
 have c3:IntKind.u8.wrap 16=16:=by decide
 have c4:=wrapC4
 rw [c1,chk_true (by omega),c2,c3,c4,jp_eq]
 dsimp only
 have hdec:decide ((16:Int)=0)=false:=rfl
 rw [forC_run s.length (fun i st=>i≤s.length∧st.1=false∧st.2=((hv (s.take i):Nat):Int)) (fun _ _=>some (hv s:Int)) ?_ ?_ s.length 0 _ rfl ⟨by omega,rfl,by simp [hv]⟩]
 ·rfl
 ·rintro ⟨b,n⟩ ⟨_,h1,h2⟩
  obtain rfl:b=false:=h1
  obtain rfl:n=_:=h2
  simp only [callG_false,Bool.false_and,cond_false,List.take_length]
 ·rintro i ⟨b,n⟩ nx hi ⟨_,h1,h2⟩ hnx
  obtain rfl:b=false:=h1
  obtain rfl:n=_:=h2
  have hc:=hs s[i] (List.getElem_mem _)
  have hlt:=hv_lt s hs i (by omega)
  have hd:=hv1_lt _ hc
  replace hlt:hv (s.take i) < 1152921504606846976:=Nat.lt_of_lt_of_le hlt (pow16_le i (by omega))
  have fin:∀ d:Int,d=hv1 s[i]→(bif decide ((16:Int)≤d) then (none:Option Int) else
    bif decide ((1152921504606846976:Int)≤((hv (s.take i):Nat):Int)) then none else
    bif (decide ((IntKind.u64.wrap ((IntKind.u64.wrap (((hv (s.take i):Nat):Int) * 16))+(IntKind.u64.wrap d))) < (IntKind.u64.wrap (((hv (s.take i):Nat):Int) * 16))) || decide ((18446744073709551615:Int) < (IntKind.u64.wrap ((IntKind.u64.wrap (((hv (s.take i):Nat):Int) * 16))+(IntKind.u64.wrap d))))) then none else
    nx (false,IntKind.u64.wrap ((IntKind.u64.wrap (((hv (s.take i):Nat):Int) * 16))+(IntKind.u64.wrap d))))=some (hv s:Int):=by
   rintro d rfl
   have e1:IntKind.u64.wrap (((hv (s.take i):Nat):Int) * 16)=((hv (s.take i) * 16:Nat):Int):=by
    rw [show ((hv (s.take i):Nat):Int) * 16=((hv (s.take i) * 16:Nat):Int) by omega]
    exact wrapU _ (by omega)
   have e2:IntKind.u64.wrap (hv1 s[i]:Int)=(hv1 s[i]:Int):=wrapU _ (by omega)
   have e3:IntKind.u64.wrap (((hv (s.take i) * 16:Nat):Int)+(hv1 s[i]:Int))=((hv (s.take i) * 16+hv1 s[i]:Nat):Int):=by
    rw [show ((hv (s.take i) * 16:Nat):Int)+(hv1 s[i]:Int)=((hv (s.take i) * 16+hv1 s[i]:Nat):Int) by omega]
    exact wrapU _ (by omega)
   rw [e1,e2,e3]
   rw [bif_f (decide_eq_false (by omega)),bif_f (decide_eq_false (by omega)),bif_f (by rw [decide_eq_false (by omega),decide_eq_false (by omega)]; rfl)]
   exact hnx _ ⟨by omega,rfl,by rw [hv_take s i hi]⟩
  rw [jp_eq]
  simp only [hdec,Bool.and_false,cond_false,bytesOf_getD s i hi]
  rcases lowA _ hc with ⟨h1,h2⟩ | ⟨h1,h2,h3,h4,h5⟩
  ·rw [h1,cond_true]; exact fin _ h2
  ·rw [h1,cond_false,h2]
   simp only [call_some,callG_some,h3,h4,Bool.and_self,cond_true]
   exact fin _ h5
def grp:Nat→Nat→Str
 | 0,n=>[UInt8.ofNat (n % 128)]
 | k+1,n=>if n < 128 then [UInt8.ofNat n] else UInt8.ofNat (n % 128+128)::grp k (n / 128)
def grpS (n:Int):Str:=grp 3 n.toNat
theorem grp_len:∀ k n,(grp k n).length≤k+1
 | 0,n=>by simp [grp]
 | k+1,n=>by
  have:=grp_len k (n / 128)
  simp only [grp]
  split <;> simp
  omega
theorem grpS_len (n:Int):(grpS n).length≤4:=grp_len _ _
theorem or128:∀ m:Fin 128,bitsI .or .i64 (m.val:Int) 128=((m.val+128:Nat):Int):=by decide +kernel
theorem and_maskS (n c m:Nat) (h:n < 9223372036854775808) (hm:m=2 ^ c - 1) (hc:c < 63):bitsI .and .i64 (n:Int) (m:Int)=((n % 2 ^ c:Nat):Int):=by
 subst hm
 have h1:2 ^ c≤2 ^ 62:=Nat.pow_le_pow_right (by decide) (by omega)
 show IntKind.i64.wrap (((BitVec.ofInt 64 (n:Int) &&& BitVec.ofInt 64 ((2 ^ c - 1:Nat):Int)).toNat:Nat):Int)=_
 rw [BitVec.toNat_and,BitVec.toNat_ofInt,BitVec.toNat_ofInt]
 have e1:((n:Int) % ((2 ^ 64:Nat):Int)).toNat=n:=by omega
 have e2:(((2 ^ c - 1:Nat):Int) % ((2 ^ 64:Nat):Int)).toNat=2 ^ c - 1:=by omega
 rw [e1,e2,Nat.and_two_pow_sub_one_eq_mod]
 have:=Nat.mod_le n (2 ^ c)
 exact wrapN _ (by omega)
theorem and127 (n:Nat) (h:n < 9223372036854775808):bitsI .and .i64 (n:Int) 127=((n % 128:Nat):Int):=and_maskS n 7 127 h rfl (by decide)
theorem shr7 (n:Nat):Int.fdiv (n:Int) (2 ^ (shI .i64 7))=((n / 128:Nat):Int):=shr_eq n 7 .i64 (by decide)
theorem u8ofNat (n:Nat) (h:n < 256):((UInt8.ofNat n).toNat:Int)=n:=by
 simp; omega
theorem bytesOf_app (a b:Str):bytesOf (a++b)=bytesOf a++bytesOf b:=List.map_append
theorem putNumber_eq (n:Int) (o:List Int) (h0:0≤n) (h1:n < 268435456) (ho:o.length≤274877906000):delta_putNumber_i1 n o=some (o++bytesOf (grpS n)):=by
 unfold delta_putNumber_i1
 obtain ⟨N,hN⟩:∃ N,Fuel=N:=⟨_,rfl⟩
 have hF:1099511627776≤N:=hN ▸ fuel_ge
 rw [hN,jp_eq]
 refine loopN_run (fun s=>∃ m k:Nat,s.1=(m:Int)∧k≤3∧m < 128 ^ (k+1)∧s.2.length+k≤274877906003∧o++bytesOf (grpS n)=s.2++bytesOf (grp k m)) (fun s=>s.1.toNat) (fun _=>some (o++bytesOf (grpS n))) ?_ N _ ⟨n.toNat,3,by simp; omega,by omega,by omega,by simp; omega,rfl⟩ (by show n.toNat < N; omega)
 rintro ⟨v,q⟩ nx ⟨m,k,hm,hk,hlt,hl,he⟩ hnx
 obtain rfl:v=m:=hm
 simp only
 simp only at hl he
 have hb:m < 268435456:=Nat.lt_of_lt_of_le hlt (Nat.le_trans (Nat.pow_le_pow_right (by decide) (show k+1≤4 by omega)) (by decide))
 by_cases h:128≤m
 ·obtain ⟨k',rfl⟩:∃ k',k=k'+1:=by
   rcases k with _ | k'
   ·simp at hlt; omega
   ·exact ⟨k',rfl⟩
  rw [bif_t (decide_eq_true (by omega)),and127 m (by omega)]
  have e:=or128 ⟨m % 128,Nat.mod_lt _ (by decide)⟩
  simp only at e
  rw [e,wrapU8,shr7 m,chk_true (by simp; omega)]
  refine hnx _ ⟨m / 128,k',rfl,by omega,?_,by simp; omega,?_⟩ (by show Int.toNat _ < Int.toNat _; rw [Int.toNat_natCast,Int.toNat_natCast]; omega)
  ·rw [Nat.pow_succ] at hlt; omega
  ·rw [he]
   simp only [grp]
   rw [if_neg (by omega),List.append_assoc]
   congr 1
 ·rw [bif_f (decide_eq_false (by omega)),wrapU8,chk_true (by simp; omega),he]
  congr 2
  have e:grp k m=[UInt8.ofNat m]:=by
   cases k with
   | zero=>show [_]=[_]; rw [Nat.mod_eq_of_lt (by omega)]
   | succ k=>simp only [grp]; rw [if_pos (by omega)]
  rw [e]
  show _=[((UInt8.ofNat m).toNat:Int)]
  rw [u8ofNat _ (by omega)]
  congr 1
  omega
def raw8 (n:Nat):Str:=(List.range 8).map fun i=>UInt8.ofNat (n / 2 ^ (56 - 8 * i) % 256)
theorem raw8_len (n:Nat):(raw8 n).length=8:=by simp [raw8]
theorem putSum_eq (s:Str) (o:List Int) (hs:isS s=true) (ho:o.length≤274877906000):delta_putSum_i1 s o=some (o++bytesOf (raw8 (hv s))):=by
 unfold delta_putSum_i1
 obtain ⟨N,hN⟩:∃ N,Fuel=N:=⟨_,rfl⟩
 have hF:1099511627776≤N:=hN ▸ fuel_ge
 rw [ParseUint_hex s hs,call_some,hN,jp_eq,jp_eq]
 generalize hv s=n
 refine loopN_run (fun st=>∃ j:Nat,j≤8∧st.1=56 - 8 * (j:Int)∧st.2=o++bytesOf ((raw8 n).take j)) (fun st=>(st.1+8).toNat) (fun _=>some (o++bytesOf (raw8 n))) ?_ N _ ⟨0,by omega,rfl,by simp [bytesOf]⟩ (by show Int.toNat _ < N; simp; omega)
 rintro ⟨v,q⟩ nx ⟨j,hj,hv,hq⟩ hnx
 obtain rfl:v=56 - 8 * (j:Int):=hv
 obtain rfl:q=_:=hq
 simp only
 by_cases h:j < 8
 ·rw [bif_t (decide_eq_true (by omega)),chk_true (by omega)]
  have e1:(56 - 8 * (j:Int))=((56 - 8 * j:Nat):Int):=by omega
  have hlen:(bytesOf ((raw8 n).take j)).length≤8:=by rw [bytesOf_length,List.length_take,raw8_len]; omega
  rw [chk_true (by simp only [List.length_append,List.length_cons,List.length_nil]; omega),e1,shr_eq n _ .u64 (by simp only [IntKind.bits]; omega),wrapU8,wrapS (by omega) (by omega)]
  refine hnx _ ⟨j+1,by omega,by simp only; omega,?_⟩ (by show Int.toNat _ < Int.toNat _; omega)
  simp only
  rw [List.append_assoc,List.take_succ_eq_append_getElem (by rw [raw8_len]; exact h),bytesOf_app]
  congr 2
  show _=[(((raw8 n)[j]'(by rw [raw8_len]; exact h)).toNat:Int)]
  simp only [raw8,List.getElem_map,List.getElem_range]
  rw [u8ofNat _ (Nat.mod_lt _ (by decide))]
  congr 1
 ·rw [bif_f (decide_eq_false (by omega))]
  obtain rfl:j=8:=by omega
  rw [List.take_of_length_le (by rw [raw8_len]; omega)]
theorem dg_hx:∀ m:Fin 16,isHx (dg m.val)=true:=by decide +kernel
theorem hx_all:∀ k n,∀ c ∈ hx k n,isHx c=true
 | 0,_,c,h=>by cases h
 | k+1,n,c,h=>by
  rcases List.mem_append.1 h with h | h
  ·exact hx_all k _ c h
  ·obtain rfl:=List.mem_singleton.1 h
   exact dg_hx ⟨n % 16,Nat.mod_lt _ (by decide)⟩
theorem isS_sumS (s:Str):isS (sumS s)=true:=by
 unfold isS
 rw [Bool.and_eq_true,List.all_eq_true,decide_eq_true_eq,sumS_length]
 exact ⟨hx_all _ _,rfl⟩
theorem strOf_bytes (s:Str):Go.Vc.strOf (bytesOf s)=s:=strOf_bytesOf s
abbrev Pc:=api_Piece
def peL (old:Int):List Pc→Int→Int × Int
 | [],n=>bif decide (65536 < n) then (0,4) else (n,0)
 | p::l,n=>bif !decide (p.Data=[]) then
   (bif ((!decide (p.At=0)) || (!decide (p.Long=0))) then (0,2) else peL old l (IntKind.i64.wrap (n+(p.Data.length:Int))))
  else
   bif ((((decide (p.At < 0)) || (decide (p.Long < 1))) || (decide (old < p.At))) || (decide (old - p.At < p.Long))) then (0,3) else peL old l (IntKind.i64.wrap (n+p.Long))
def pe (l:List Pc) (old:Int):Int × Int :=
 bif ((decide (old < 0)) || (decide (65536 < old))) then (0,3) else bif decide (5000 < (l.length:Int)) then (0,4) else peL old l 0
theorem CheckSteps_eq (l:List Pc) (old:Int):delta_CheckSteps l old=some (pe l old):=by
 unfold delta_CheckSteps pe delta_outside
 rw [call_some]
 cases h0:((decide (old < 0)) || (decide (65536 < old)))
 rotate_left
 ·rfl
 simp only [Bool.or_eq_false_iff,decide_eq_false_iff_not] at h0
 simp only [cond_false]
 cases decide (5000 < (l.length:Int))
 rotate_left
 ·rfl
 simp only [cond_false,jp_eq]
 refine forL_run (fun _ _ _=>True) (fun _ l n=>some (peL old l n)) ?_ ?_ l 0 0 trivial
 ·intro i n _; unfold peL; cases decide (65536 < n) <;> rfl
 ·intro i p l n nx _ hnx
  have ih:=fun n=>hnx n trivial
  unfold peL
  cases decide (p.Data=[])
  ·simp only [Bool.not_false,cond_true]
   cases ((!decide (p.At=0)) || (!decide (p.Long=0)))
   ·exact ih _
   ·rfl
  ·simp only [Bool.not_true,cond_false]
   have e:((((decide (p.At < 0)) || (decide (p.Long < 1))) || (decide (old < p.Long))) || (decide ((IntKind.i64.wrap (old - p.Long)) < p.At)))=((((decide (p.At < 0)) || (decide (p.Long < 1))) || (decide (old < p.At))) || (decide (old - p.At < p.Long))):=by
    by_cases h1:p.At < 0
    ·simp [h1]
    by_cases h2:p.Long < 1
    ·simp [h2]
    by_cases h:old < p.Long
    ·have:old < p.At ∨ old - p.At < p.Long:=by omega
     rcases this with h' | h' <;> simp [h,h']
    ·rw [wrapS (by omega) (by omega)]
     have:(old - p.Long < p.At) ↔ (old < p.At ∨ old - p.At < p.Long):=by omega
     rw [decide_eq_false h1,decide_eq_false h2,decide_eq_false h]
     simp only [Bool.or_false,Bool.false_or]
     rw [← Bool.decide_or]
     exact decide_eq_decide.2 this
   rw [e]
   cases ((((decide (p.At < 0)) || (decide (p.Long < 1))) || (decide (old < p.At))) || (decide (old - p.At < p.Long)))
   ·exact ih _
   ·rfl
def Pok (old:Int) (p:Pc):Prop:=(p.Data ≠ []∧p.At=0∧p.Long=0) ∨ (p.Data=[]∧0≤p.At∧1≤p.Long∧p.At+p.Long≤old)
theorem peL_ok (old:Int):∀ (l:List Pc) (n:Int),(peL old l n).2=0→∀ p ∈ l,Pok old p
 | [],_,_,_,hp=>by cases hp
 | q::l,n,h,p,hp=>by
  unfold peL at h
  by_cases hd:q.Data=[]
  ·rw [decide_eq_true hd] at h
   simp only [Bool.not_true,cond_false] at h
   cases hc:((((decide (q.At < 0)) || (decide (q.Long < 1))) || (decide (old < q.At))) || (decide (old - q.At < q.Long))) <;> rw [hc] at h
   ·simp only [Bool.or_eq_false_iff,decide_eq_false_iff_not] at hc
    rcases List.mem_cons.1 hp with rfl | hp
    ·exact .inr ⟨hd,by omega,by omega,by omega⟩
    ·exact peL_ok old l _ h p hp
   ·simp at h
  ·rw [decide_eq_false hd] at h
   simp only [Bool.not_false,cond_true] at h
   cases hc:((!decide (q.At=0)) || (!decide (q.Long=0))) <;> rw [hc] at h
   ·simp only [Bool.or_eq_false_iff,Bool.not_eq_false',decide_eq_true_eq] at hc
    rcases List.mem_cons.1 hp with rfl | hp
    ·exact .inl ⟨hd,hc.1,hc.2⟩
    ·exact peL_ok old l _ h p hp
   ·simp at h
theorem pe_ok {l:List Pc} {old:Int} (h:(pe l old).2=0):0≤old∧old≤65536∧l.length≤5000∧∀ p ∈ l,Pok old p:=by
 unfold pe at h
 cases h0:((decide (old < 0)) || (decide (65536 < old))) <;> rw [h0] at h
 rotate_left
 ·simp at h
 simp only [cond_false] at h
 cases h1:decide (5000 < (l.length:Int)) <;> rw [h1] at h
 rotate_left
 ·simp at h
 simp only [Bool.or_eq_false_iff,decide_eq_false_iff_not] at h0 h1
 exact ⟨by omega,by omega,by omega,peL_ok old l 0 h⟩
def de (d:api_Delta):Int :=
 bif ((((decide (d.Old < 0)) || (decide (65536 < d.Old))) || (decide (d.New < 0))) || (decide (65536 < d.New))) then 3
 else bif !(isS d.OldSum && isS d.NewSum) then 2
 else bif decide ((pe d.Pieces d.Old).2=0) then (bif decide ((pe d.Pieces d.Old).1=d.New) then 0 else 11) else (pe d.Pieces d.Old).2
theorem Check_eq (d:api_Delta):delta_Check d=some (de d):=by
 unfold delta_Check de delta_outside
 simp only [call_some,callG_some,delta_isSum_eq,CheckSteps_eq]
 cases ((decide (d.Old < 0)) || (decide (65536 < d.Old)))
 ·simp only [Bool.not_false,cond_true,Bool.false_or]
  cases ((decide (d.New < 0)) || (decide (65536 < d.New)))
  ·simp only [cond_false]
   cases isS d.OldSum <;> simp only [Bool.not_false,Bool.not_true,cond_false,cond_true,Bool.true_or,Bool.false_or,Bool.false_and,Bool.true_and]
   cases isS d.NewSum <;> simp only [Bool.not_false,Bool.not_true,cond_false,cond_true]
   by_cases h:(pe d.Pieces d.Old).2=0
   ·rw [decide_eq_true h]
    simp only [cond_true,Bool.true_and]
    cases decide ((pe d.Pieces d.Old).1=d.New) <;> simp [h]
   ·rw [decide_eq_false h]; rfl
  ·rfl
 ·rfl
theorem de_ok {d:api_Delta} (h:de d=0):0≤d.Old∧d.Old≤65536∧0≤d.New∧d.New≤65536∧isS d.OldSum=true∧isS d.NewSum=true∧d.Pieces.length≤5000∧∀ p ∈ d.Pieces,Pok d.Old p:=by
 unfold de at h
 cases h0:((((decide (d.Old < 0)) || (decide (65536 < d.Old))) || (decide (d.New < 0))) || (decide (65536 < d.New))) <;> rw [h0] at h
 rotate_left
 ·simp at h
 simp only [cond_false] at h
 cases h1:(isS d.OldSum && isS d.NewSum) <;> rw [h1] at h
 ·simp at h
 simp only [Bool.not_true,cond_false] at h
 cases h2:decide ((pe d.Pieces d.Old).2=0) <;> rw [h2] at h
 ·simp only [cond_false] at h
  simp only [decide_eq_false_iff_not] at h2
  exact absurd h h2
 ·simp only [Bool.or_eq_false_iff,decide_eq_false_iff_not] at h0
  obtain ⟨_,_,h3,h4⟩:=pe_ok (of_decide_eq_true h2)
  rw [Bool.and_eq_true] at h1
  exact ⟨by omega,by omega,by omega,by omega,h1.1,h1.2,h3,h4⟩
theorem wr_eq (o s:Str) (h:o.length+s.length≤274877906944):strings_Builder_WriteString_i1 s o=some ((s.length:Int),o++s):=by
 unfold strings_Builder_WriteString_i1 strings_Builder_copyCheck_np
 rw [call_some,chk_true (by simp; omega)]
theorem bs_eq (o:Str):strings_Builder_String_i1 o=some o:=rfl
def pm (a:Str) (p:Pc):Str:=if p.Data=[] then (a.drop p.At.toNat).take p.Long.toNat else p.Data
def made (a:Str) (l:List Pc):Str:=l.flatMap (pm a)
theorem pm_len {a:Str} {p:Pc} (h:Pok a.length p) (hd:p.Data.length≤1048576) (ha:a.length≤65536):(pm a p).length≤1048576:=by
 unfold pm
 split
 ·simp; omega
 ·exact hd
theorem made_loop {Z:Type} {a:Str} (ha:a.length≤65536) (k:Str→Option Z) (l:List Pc) (hl:∀ p ∈ l,Pok a.length p∧p.Data.length≤1048576) (hn:l.length≤5000) :
  forL l 0 (fun i_38 p_40 o1_31 nx_37 k_36 =>
   bif !decide (p_40.Data=[]) then
    call (strings_Builder_WriteString_i1 p_40.Data o1_31) fun r_41 =>
    nx_37 r_41.2
   else
   chk (0≤p_40.At∧p_40.At≤(a.length:Int)∧0≤IntKind.i64.wrap (p_40.At+p_40.Long)∧IntKind.i64.wrap (p_40.At+p_40.Long)≤(a.length:Int)∧p_40.At≤IntKind.i64.wrap (p_40.At+p_40.Long)) <|
   call (strings_Builder_WriteString_i1 (List.take ((IntKind.i64.wrap (p_40.At+p_40.Long)).toNat - p_40.At.toNat) (List.drop p_40.At.toNat a)) o1_31) fun r_43 =>
   nx_37 r_43.2) [] k=k (made a l):=by
 refine forL_run (fun _ r o=>(∀ p ∈ r,Pok a.length p∧p.Data.length≤1048576)∧o.length+r.length * 1048576≤5242880000) (fun _ r o=>k (o++made a r)) ?_ ?_ l 0 [] ⟨hl,by simp; omega⟩
 ·intro i o _; simp [made]
 ·intro i p r o nx ⟨hr,ho⟩ hnx
  have hp:=hr p (by simp)
  have hpl:=pm_len hp.1 hp.2 ha
  simp only [List.length_cons] at ho
  have fin:∀ s:Str,s=pm a p→(call (strings_Builder_WriteString_i1 s o) fun r_41=>nx r_41.2)=k (o++made a (p::r)):=by
   rintro s rfl
   rw [wr_eq _ _ (by omega),call_some,hnx _ ⟨fun q hq=>hr q (by simp [hq]),by simp; omega⟩]
   simp [made]
  by_cases hd:p.Data=[]
  ·rw [decide_eq_true hd,Bool.not_true,cond_false]
   rcases hp.1 with h | ⟨_,h1,h2,h3⟩
   ·exact absurd hd h.1
   ·rw [wrapS (by omega) (by omega),chk_true (by omega)]
    apply fin
    unfold pm
    rw [if_pos hd]
    congr 1
    omega
  ·rw [decide_eq_false hd,Bool.not_false,cond_true]
   exact fin _ (by unfold pm; rw [if_neg hd])
def pp (p:Pc):Str:=if p.Data=[] then [0]++grpS p.At++grpS p.Long else [1]++grpS (p.Data.length:Int)++p.Data
def headS (d:api_Delta):Str:=((((([79,70,68,49]++grpS d.Old)++grpS d.New)++raw8 (hv d.OldSum))++raw8 (hv d.NewSum))++grpS (d.Pieces.length:Int))
def bodyS (d:api_Delta):Str:=headS d++d.Pieces.flatMap pp
def printS (d:api_Delta):Str:=bodyS d++raw8 (hv (sumS (bodyS d)))
theorem pp_len {p:Pc} (hd:p.Data.length≤1048576):(pp p).length≤1048600:=by
 have h1:=grpS_len p.At
 have h2:=grpS_len p.Long
 have h3:=grpS_len (p.Data.length:Int)
 unfold pp
 split <;> simp <;> omega
theorem headS_len (d:api_Delta):(headS d).length≤40:=by
 have h1:=grpS_len d.Old
 have h2:=grpS_len d.New
 have h3:=grpS_len (d.Pieces.length:Int)
 unfold headS
 simp only [List.length_append,raw8_len,List.length_cons,List.length_nil]
 omega
theorem flat_len {l:List Pc} (hl:∀ p ∈ l,p.Data.length≤1048576):(l.flatMap pp).length≤l.length * 1048600:=by
 induction l with
 | nil=>simp
 | cons p l ih =>
  have:=pp_len (hl p (by simp))
  have:=ih fun q hq=>hl q (by simp [hq])
  simp only [List.flatMap_cons,List.length_append,List.length_cons]
  omega
structure Dok (d:api_Delta):Prop where
 ok:de d=0
 sm:∀ p ∈ d.Pieces,p.Data.length≤1048576
theorem Dok.pok {d:api_Delta} (h:Dok d):∀ p ∈ d.Pieces,Pok d.Old p∧p.Data.length≤1048576:=fun p hp=>⟨(de_ok h.ok).2.2.2.2.2.2.2 p hp,h.sm p hp⟩
theorem bytesOf_len (s:Str):(bytesOf s).length=s.length:=bytesOf_length s
theorem Print_ok {d:api_Delta} (h:Dok d):delta_Print d=some (printS d,0):=by
 obtain ⟨o1,o2,n1,n2,s1,s2,l1,hp⟩:=de_ok h.ok
 unfold delta_Print
 rw [Check_eq,call_some,h.ok]
 simp only [decide_true,Bool.not_true,cond_false]
 have g1:=grpS_len d.Old
 have g2:=grpS_len d.New
 have g3:=grpS_len (d.Pieces.length:Int)
 rw [chk_true (by decide),show ([79,70,68,49]:List Int)=bytesOf [79,70,68,49] from rfl]
 rw [putNumber_eq _ _ o1 (by omega) (by rw [bytesOf_len]; decide),call_some,← bytesOf_app]
 rw [putNumber_eq _ _ n1 (by omega) (by rw [bytesOf_len]; simp; omega),call_some,← bytesOf_app]
 rw [putSum_eq _ _ s1 (by rw [bytesOf_len]; simp; omega),call_some,← bytesOf_app]
 rw [putSum_eq _ _ s2 (by rw [bytesOf_len]; simp [raw8_len]; omega),call_some,← bytesOf_app]
 rw [putNumber_eq _ _ (by omega) (by omega) (by rw [bytesOf_len]; simp [raw8_len]; omega),call_some,← bytesOf_app,jp_eq]
 have hh:=headS_len d
 refine forL_run (fun _ r o=>(∀ p ∈ r,Pok d.Old p∧p.Data.length≤1048576)∧o.length+r.length * 1048600≤5243000040∧bytesOf (bodyS d)=o++bytesOf (r.flatMap pp)) (fun _ _ _=>some (printS d,0)) ?_ ?_ d.Pieces 0 _ ⟨h.pok,?_,?_⟩
 ·rintro i o ⟨_,hl,ho⟩
  simp only [List.flatMap_nil] at ho
  obtain rfl:o=bytesOf (bodyS d):=by rw [ho]; simp [bytesOf]
  dsimp only
  rw [strOf_bytes,disk_SumOf_eq,call_some,putSum_eq _ _ (isS_sumS _) (by simp at hl; omega),call_some,← bytesOf_app,strOf_bytes]
  rfl
 ·rintro i p r o nx ⟨hr,hl,ho⟩ hnx
  have hpk:=hr p (by simp)
  simp only [List.length_cons] at hl
  have hr':∀ p ∈ r,Pok d.Old p∧p.Data.length≤1048576:=fun q hq=>hr q (by simp [hq])
  rw [List.flatMap_cons,bytesOf_app,← List.append_assoc] at ho
  have g4:=grpS_len p.At
  have g5:=grpS_len p.Long
  have g6:=grpS_len (p.Data.length:Int)
  have ppl:=pp_len hpk.2
  have fin:∀ x,x=o++bytesOf (pp p)→nx x=some (printS d,0):=by
   rintro x rfl
   exact hnx _ ⟨hr',by simp only [List.length_append,bytesOf_len]; omega,ho⟩
  by_cases hd:p.Data=[]
  ·rw [decide_eq_true hd,Bool.not_true,cond_false,chk_true (by simp; omega)]
   rcases hpk.1 with hq | ⟨_,q1,q2,q3⟩
   ·exact absurd hd hq.1
   rw [putNumber_eq _ _ q1 (by omega) (by simp; omega),call_some,putNumber_eq _ _ (by omega) (by omega) (by simp only [List.length_append,bytesOf_len,List.length_cons,List.length_nil]; omega),call_some]
   apply fin
   unfold pp
   rw [if_pos hd,bytesOf_app,bytesOf_app]
   simp only [List.append_assoc]; rfl
  ·rw [decide_eq_false hd,Bool.not_false,cond_true,chk_true (by simp; omega)]
   rw [putNumber_eq _ _ (by omega) (by omega) (by simp; omega),call_some,chk_true (by simp only [List.length_append,bytesOf_len,List.length_cons,List.length_nil]; omega)]
   apply fin
   unfold pp
   rw [if_neg hd,bytesOf_app,bytesOf_app]
   simp only [List.append_assoc]; rfl
 ·rw [bytesOf_len]
  have:((((([79,70,68,49]++grpS d.Old)++grpS d.New)++raw8 (hv d.OldSum))++raw8 (hv d.NewSum))++grpS (d.Pieces.length:Int)).length=(headS d).length:=rfl
  omega
 ·rw [← bytesOf_app]; rfl
theorem slices_refl (l:List Pc):slices_Equal_api_Piece_api_Piece l l=some true:=by
 unfold slices_Equal_api_Piece_api_Piece
 simp only [decide_true,Bool.not_true,cond_false,jp_eq]
 refine forL_run (fun i r _=>l.drop i=r) (fun _ _ _=>some true) (fun _ _ _=>rfl) ?_ l 0 () rfl
 rintro i p r ⟨⟩ nx h hnx
 have hi:i < l.length:=by
  rcases Nat.lt_or_ge i l.length with h' | h'
  ·exact h'
  ·rw [List.drop_eq_nil_of_le h'] at h; cases h
 rw [List.drop_eq_getElem_cons hi] at h
 injection h with h1 h2
 rw [idx_eq hi,h1]
 simp only [decide_true,Bool.and_self,Bool.not_true,cond_false]
 exact hnx _ h2
theorem same_refl (d:api_Delta):Law_sameDelta d d=some true:=by
 unfold Law_sameDelta
 simp only [decide_true,Bool.and_self,slices_refl,callG_some,cond_true,letv]
def patch (a:Str) (d:api_Delta):Str × Int :=
 if (a.length:Int) ≠ d.Old ∨ sumS a ≠ d.OldSum then ([],14) else if sumS (made a d.Pieces) ≠ d.NewSum then ([],14) else (made a d.Pieces,0)
theorem Apply_eq (a:Str) {d:api_Delta} (h:Dok d):delta_Apply a d=some (patch a d):=by
 obtain ⟨o1,o2,n1,n2,s1,s2,l1,hp⟩:=de_ok h.ok
 unfold delta_Apply patch
 rw [Check_eq,call_some,h.ok]
 simp only [decide_true,Bool.not_true,cond_false]
 rw [disk_SumOf_eq,callG_some]
 by_cases h1:(a.length:Int)=d.Old
 ·rw [decide_eq_true h1]
  simp only [Bool.not_true,Bool.not_false,cond_true,Bool.false_or]
  by_cases h2:sumS a=d.OldSum
  ·rw [decide_eq_true h2,if_neg (by simp [h1,h2])]
   simp only [Bool.not_true,cond_false,jp_eq]
   refine (made_loop (by omega) _ _ (by rw [h1]; exact h.pok) l1).trans ?_
   simp only [bs_eq,call_some,disk_SumOf_eq]
   by_cases h3:sumS (made a d.Pieces)=d.NewSum
   ·rw [decide_eq_true h3,if_neg (by simp [h3])]; rfl
   ·rw [decide_eq_false h3,if_pos h3]; rfl
  ·rw [decide_eq_false h2,if_pos (.inr h2)]; rfl
 ·rw [decide_eq_false h1,if_pos (.inl h1)]; rfl
theorem landed_eq:Law_landed=some true:=by decide +kernel
def orI (n:Int) (c:UInt8) (i:Nat):Int:=bitsI .or .i64 n (IntKind.i64.wrap ((IntKind.i64.wrap (bitsI .and .u8 (c.toNat:Int) 127)) * 2 ^ (shI .i64 (IntKind.i64.wrap (7 * (i:Int))))))
def numS:Nat→Nat→Int→Str→Option (Int × Str)
 | 0,_,_,_=>none
 | _+1,_,_,[]=>none
 | k+1,i,n,c::r=>if c.toNat < 128 then (if 0 < i∧c.toNat=0 then none else some (orI n c i,r)) else numS k (i+1) (orI n c i) r
def num (s:Str):Option (Int × Str):=numS 5 0 0 s
def cutS (n:Int) (s:Str):Option (Str × Str):=if 0≤n∧n≤(s.length:Int) then some (s.take n.toNat,s.drop n.toNat) else none
def be (s:Str):Nat:=s.foldl (fun n c=>n * 256+c.toNat) 0
def sum8 (s:Str):Option (Str × Str):=match cutS 8 s with
 | some (b,r)=>some (hx 16 (be b),r)
 | none=>none
theorem numS_len:∀ {k i:Nat} {n m:Int} {s r:Str},numS k i n s=some (m,r)→r.length < s.length
 | k+1,i,n,m,c::s,r,h=>by
  simp only [numS] at h
  split at h
  ·split at h
   ·cases h
   ·cases h; simp
  ·have:=numS_len h
   simp only [List.length_cons]; omega
theorem num_len {m:Int} {s r:Str} (h:num s=some (m,r)):r.length < s.length:=numS_len h
theorem cutS_len {n:Int} {s b r:Str} (h:cutS n s=some (b,r)):b.length+r.length=s.length∧(b.length:Int)=n∧s=b++r:=by
 unfold cutS at h
 split at h
 ·cases h
  simp only [List.length_take,List.length_drop,List.take_append_drop,and_true]
  omega
 ·cases h
theorem wrap7 (i:Nat) (h:i≤5):IntKind.i64.wrap (7 * (i:Int))=7 * (i:Int):=wrapS (by omega) (by omega)
theorem be_lt:∀ (l:Str) (n:Nat),l.foldl (fun n c=>n * 256+c.toNat) n < (n+1) * 256 ^ l.length
 | [],n=>by simp
 | c::l,n=>by
  have ih:=be_lt l (n * 256+c.toNat)
  have hc:=c.toNat_lt
  simp only [List.foldl_cons,List.length_cons,Nat.pow_succ]
  refine Nat.lt_of_lt_of_le ih ?_
  rw [← Nat.mul_assoc,Nat.mul_right_comm]
  exact Nat.mul_le_mul_right _ (by omega)
theorem be8 (l:Str) (h:l.length≤8):be l < 18446744073709551616:=by
 have h1:=be_lt l 0
 have h2:256 ^ l.length≤256 ^ 8:=Nat.pow_le_pow_right (by decide) h
 unfold be
 omega
def StepD {A:Type} (s:Str) (F:Int→Bool→Option (A × Int × Bool)) (S:Str→Option (A × Str)):Prop :=
 ∀ (i:Nat) b,i≤s.length→∃ v j b',F (i:Int) b=some (v,((j:Nat):Int),b')∧i≤j∧j≤s.length∧((b=false∧S (s.drop i)=some (v,s.drop j)∧b'=false) ∨ ((b=true ∨ S (s.drop i)=none)∧b'=true))
theorem takeD_eq (n:Int) (s:Str) (i:Nat) (b:Bool) (hi:i≤s.length) (hs:s.length≤2097152):delta_reader_take_i1 n s (i:Int) b=some (match cutS n (s.drop i) with | some (x,_)=>(x,b,((i+n.toNat:Nat):Int)) | none=>([],true,(i:Int))):=by
 unfold delta_reader_take_i1 cutS
 have e1:IntKind.i64.wrap ((s.length:Int) - (i:Int))=((s.length - i:Nat):Int):=by rw [wrapS (by omega) (by omega)]; omega
 rw [e1,List.length_drop]
 by_cases h:0≤n∧n≤((s.length - i:Nat):Int)
 ·rw [if_pos h,bif_f (by rw [decide_eq_false (by omega),decide_eq_false (by omega)]; rfl)]
  have e2:IntKind.i64.wrap ((i:Int)+n)=((i+n.toNat:Nat):Int):=by rw [wrapS (by omega) (by omega)]; omega
  have e3:IntKind.i64.wrap (((i+n.toNat:Nat):Int) - n)=(i:Int):=by rw [wrapS (by omega) (by omega)]; omega
  rw [e2,e3,chk_true (by omega)]
  simp only [Int.toNat_natCast,Nat.add_sub_cancel_left]
 ·rw [if_neg h,bif_t]
  by_cases h1:n < 0
  ·rw [decide_eq_true h1]; rfl
  ·rw [decide_eq_true (by omega:((s.length - i:Nat):Int) < n),Bool.or_true]
theorem cut1 (s:Str):cutS 1 s=match s with | []=>none | c::r=>some ([c],r):=by
 unfold cutS
 cases s with
 | nil=>rfl
 | cons c r=>rw [if_pos (by simp; omega)]; rfl
theorem drop_cons {s r:Str} {c:UInt8} {i:Nat} (h:s.drop i=c::r):i < s.length∧s.drop (i+1)=r:=by
 have hl:=congrArg List.length h
 simp only [List.length_drop,List.length_cons] at hl
 refine ⟨by omega,?_⟩
 rw [← List.drop_drop,h]; rfl
theorem numD (s:Str) (hs:s.length≤2097152):StepD s (fun i b=>delta_reader_number_i1 s i b) num:=by
 intro i b hi
 show ∃ v j b',delta_reader_number_i1 s (i:Int) b=_∧_
 unfold delta_reader_number_i1 num
 obtain ⟨N,hN⟩:∃ N,Fuel=N:=⟨_,rfl⟩
 have hF:1099511627776≤N:=hN ▸ fuel_ge
 rw [hN,jp_eq]
 suffices H:∀ (N k t:Nat) (n:Int) (i:Nat),i≤s.length→k < N→k+t=5→∃ (v:Int) (j:Nat) (b':Bool),loopN N (fun s_1 nx_74 k_73 =>
  match s_1 with
  | (n_66,t6_67,o0_1_68,o0_2_69) =>
   bif decide (t6_67 < 5) then
    call (delta_reader_take_i1 1 s o0_1_68 o0_2_69) fun r_75 =>
    bif r_75.2.1 then
     some (0,r_75.2.2,r_75.2.1)
    else
    idxS r_75.1 0 fun c_76 =>
    chk (0≤(IntKind.i64.wrap (7 * t6_67))) <|
    bif decide (c_76 < 128) then
     some (bitsI .or .i64 n_66 (IntKind.i64.wrap ((IntKind.i64.wrap (bitsI .and .u8 c_76 127)) * 2 ^ (shI .i64 (IntKind.i64.wrap (7 * t6_67))))),r_75.2.2,(r_75.2.1 || ((decide (0 < t6_67)) && (decide (c_76=0)))))
    else
    nx_74 (bitsI .or .i64 n_66 (IntKind.i64.wrap ((IntKind.i64.wrap (bitsI .and .u8 c_76 127)) * 2 ^ (shI .i64 (IntKind.i64.wrap (7 * t6_67))))),IntKind.i64.wrap (t6_67+1),r_75.2.2,r_75.2.1)
   else
   k_73 (n_66,t6_67,o0_1_68,o0_2_69)) (n,(t:Int),(i:Int),b) (fun s=>match s with
  | (n_66,t6_67,o0_1_68,o0_2_69)=>some ((0:Int),o0_1_68,true))=some (v,((j:Nat):Int),b')∧i≤j∧j≤s.length∧((b=false∧numS k t n (s.drop i)=some (v,s.drop j)∧b'=false) ∨ ((b=true ∨ numS k t n (s.drop i)=none)∧b'=true)) from
  H N 5 0 0 i hi (by omega) rfl
 intro N
 induction N with
 | zero=>intro k t n i _ h; omega
 | succ N ih =>
  intro k t n i hi hk ht
  unfold loopN
  dsimp only
  cases k with
  | zero =>
   rw [bif_f (decide_eq_false (by omega))]
   exact ⟨_,_,_,rfl,Nat.le_refl _,hi,.inr ⟨.inr rfl,rfl⟩⟩
  | succ k =>
   rw [bif_t (decide_eq_true (by omega)),takeD_eq 1 s i b hi hs,call_some,cut1]
   cases hd:s.drop i with
   | nil=>exact ⟨_,_,_,rfl,Nat.le_refl _,hi,.inr ⟨.inr rfl,rfl⟩⟩
   | cons c r =>
    obtain ⟨hi',hd'⟩:=drop_cons hd
    dsimp only
    cases b with
    | true =>
     rw [cond_true]
     exact ⟨_,i+1,_,rfl,by omega,by omega,.inr ⟨.inl rfl,rfl⟩⟩
    | false =>
     rw [cond_false]
     show ∃ v j b',idxS [c] ((0:Nat):Int) _=_∧_
     rw [idxS_eq (by simp),chk_true (by rw [wrap7 t (by omega)]; omega)]
     simp only [List.getElem_cons_zero,numS]
     have e:bitsI .or .i64 n (IntKind.i64.wrap ((IntKind.i64.wrap (bitsI .and .u8 (c.toNat:Int) 127)) * 2 ^ (shI .i64 (IntKind.i64.wrap (7 * (t:Int))))))=orI n c t:=rfl
     rw [e]
     by_cases h1:c.toNat < 128
     ·rw [bif_t (decide_eq_true (by omega)),if_pos h1]
      by_cases h2:0 < t∧c.toNat=0
      ·rw [if_pos h2,decide_eq_true (by omega:(0:Int) < (t:Int)),decide_eq_true (by omega:(c.toNat:Int)=0)]
       exact ⟨_,i+1,_,rfl,by omega,by omega,.inr ⟨.inr rfl,rfl⟩⟩
      ·rw [if_neg h2]
       have:(decide ((0:Int) < (t:Int)) && decide ((c.toNat:Int)=0))=false:=by
        by_cases h3:0 < t
        ·rw [decide_eq_false (show ¬ (c.toNat:Int)=0 by omega),Bool.and_false]
        ·rw [decide_eq_false (show ¬ (0:Int) < (t:Int) by omega),Bool.false_and]
       rw [this]
       exact ⟨_,i+1,_,rfl,by omega,by omega,.inl ⟨trivial,by rw [hd'],rfl⟩⟩
     ·rw [bif_f (decide_eq_false (by omega)),if_neg h1,wrap1 t (by omega)]
      obtain ⟨v,j,b',h3,h4,h5,h6⟩:=ih k (t+1) (orI n c t) (i+1) (by omega) (by omega) (by omega)
      rw [hd'] at h6
      refine ⟨v,j,b',h3,by omega,h5,?_⟩
      rcases h6 with ⟨_,h7,h8⟩ | ⟨h7 | h7,h8⟩
      ·exact .inl ⟨trivial,h7,h8⟩
      ·cases h7
      ·exact .inr ⟨.inr h7,h8⟩
theorem hx_bytes:∀ (l:Str) (k n:Nat),hx (k+2 * l.length) (l.foldl (fun n c=>n * 256+c.toNat) n)=hx k n++l.flatMap fun c=>[dg (c.toNat / 16),dg (c.toNat % 16)]
 | [],k,n=>by simp
 | c::l,k,n=>by
  have ih:=hx_bytes l (k+2) (n * 256+c.toNat)
  have hc:c.toNat < 256:=c.toNat_lt
  rw [List.foldl_cons,List.length_cons,show k+2 * (l.length+1)=k+2+2 * l.length by omega,ih]
  simp only [hx,List.flatMap_cons]
  rw [show (n * 256+c.toNat) / 16 / 16=n by omega,show (n * 256+c.toNat) / 16 % 16=c.toNat / 16 by omega,show (n * 256+c.toNat) % 16=c.toNat % 16 by omega]
  simp only [List.append_assoc,List.cons_append,List.nil_append]
theorem hi4 (c:UInt8):Int.fdiv (c.toNat:Int) (2 ^ (shI .u8 4))=((c.toNat / 16:Nat):Int):=shr_eq c.toNat 4 .u8 (by decide)
theorem lo4:∀ c:UInt8,bitsI .and .u8 (c.toNat:Int) 15=((c.toNat % 16:Nat):Int):=u8all (by decide +kernel)
theorem sumD_any (x:Str) (hx:x.length≤8) {Z:Type} (k:List Int→Option Z):forC x.length 0 (fun i_97 o2_89 nx_96 k_95 =>
  idxS ([48,49,50,51,52,53,54,55,56,57,97,98,99,100,101,102]:Str) (Int.fdiv ((bytesOf x).getD i_97 0) (2 ^ (shI .u8 4))) fun c_101 =>
  idxS ([48,49,50,51,52,53,54,55,56,57,97,98,99,100,101,102]:Str) (bitsI .and .u8 ((bytesOf x).getD i_97 0) 15) fun c_102 =>
  chk ((o2_89++[c_101,c_102]).length≤274877906944) <|
  nx_96 (o2_89++[c_101,c_102])) [] k=k (bytesOf (x.flatMap fun c=>[dg (c.toNat / 16),dg (c.toNat % 16)])):=by
 refine forC_run x.length (fun i o=>i≤x.length∧o=bytesOf ((x.take i).flatMap fun c=>[dg (c.toNat / 16),dg (c.toNat % 16)])) (fun _ _=>k (bytesOf (x.flatMap fun c=>[dg (c.toNat / 16),dg (c.toNat % 16)]))) ?_ ?_ x.length 0 _ rfl ⟨by omega,rfl⟩
 ·rintro o ⟨_,rfl⟩
  rw [List.take_length]
 ·rintro i o nx hi ⟨_,rfl⟩ hnx
  have hc:(x[i]).toNat < 256:=(x[i]).toNat_lt
  rw [bytesOf_getD x i hi,hi4,lo4]
  show idxS HXs _ _=_
  rw [idx_hx _ (by omega)]
  show idxS HXs _ _=_
  rw [idx_hx _ (Nat.mod_lt _ (by decide))]
  have e:bytesOf ((x.take i).flatMap fun c=>[dg (c.toNat / 16),dg (c.toNat % 16)])++[((dg (x[i].toNat / 16)).toNat:Int),((dg (x[i].toNat % 16)).toNat:Int)]=bytesOf ((x.take (i+1)).flatMap fun c=>[dg (c.toNat / 16),dg (c.toNat % 16)]):=by
   rw [List.take_succ_eq_append_getElem hi,List.flatMap_append,bytesOf_app]
   rfl
  rw [e,chk_true]
  ·exact hnx _ ⟨by omega,rfl⟩
  ·rw [bytesOf_length]
   have:∀ l:Str,(l.flatMap fun c=>[dg (c.toNat / 16),dg (c.toNat % 16)]).length=2 * l.length:=by
    intro l
    induction l with
    | nil=>rfl
    | cons c l ih=>rw [List.flatMap_cons,List.length_append,ih,List.length_cons]; simp; omega
   rw [this,List.length_take]; omega
theorem sumD (s:Str) (hs:s.length≤2097152):StepD s (fun i b=>delta_reader_sum_i1 s i b) sum8:=by
 intro i b hi
 show ∃ v j b',delta_reader_sum_i1 s (i:Int) b=_∧_
 unfold delta_reader_sum_i1 sum8
 rw [jp_eq,takeD_eq 8 s i b hi hs,call_some]
 cases h:cutS 8 (s.drop i) with
 | none =>
  dsimp only
  rw [sumD_any [] (by simp)]
  exact ⟨_,i,_,rfl,Nat.le_refl _,hi,.inr ⟨.inr rfl,rfl⟩⟩
 | some x =>
  obtain ⟨x,y⟩:=x
  obtain ⟨hl,hx8,hsp⟩:=cutS_len h
  rw [List.length_drop] at hl
  dsimp only
  rw [sumD_any x (by omega)]
  have hb:hx 16 (be x)=x.flatMap fun c=>[dg (c.toNat / 16),dg (c.toNat % 16)]:=by
   have:=hx_bytes x 0 0
   rw [show 0+2 * x.length=16 by omega] at this
   exact this
  have hy:y=s.drop (i+Int.toNat 8):=by
   unfold cutS at h
   split at h
   ·cases h; rw [List.drop_drop]
   ·cases h
  rw [strOf_bytes,← hb,hy]
  have h8:Int.toNat 8=8:=rfl
  cases b with
  | false=>exact ⟨_,i+8,_,rfl,by omega,by omega,.inl ⟨rfl,rfl,rfl⟩⟩
  | true=>exact ⟨_,i+8,_,rfl,by omega,by omega,.inr ⟨.inl rfl,rfl⟩⟩
def pc1:Str→Option (Pc × Str)
 | []=>none
 | c::r=>if c=0 then (num r).bind fun a=>(num a.2).bind fun l=>some (⟨a.1,l.1,[]⟩,l.2)
  else if c=1 then (num r).bind fun m=>(cutS m.1 m.2).bind fun x=>if x.1=[] then none else some (⟨0,0,x.1⟩,x.2)
  else none
def pcs:Nat→Str→Option (List Pc × Str)
 | 0,s=>some ([],s)
 | k+1,s=>(pc1 s).bind fun p=>(pcs k p.2).bind fun l=>some (p.1::l.1,l.2)
def fullS (s:Str):Option (api_Delta × Str × Str) :=
 (cutS 4 s).bind fun x=>if x.1=([79,70,68,49]:Str) then (num x.2).bind fun a=>(num a.2).bind fun b=>(sum8 b.2).bind fun c=>(sum8 c.2).bind fun e=>(num e.2).bind fun k =>
  (pcs k.1.toNat k.2).bind fun l=>(sum8 l.2).bind fun m=>if m.2=[] then some (⟨a.1,b.1,c.1,e.1,l.1⟩,s.take (s.length - l.2.length),m.1) else none else none
def zD:api_Delta:=⟨0,0,[],[],[]⟩
def parseS (s:Str):api_Delta × Int:=if 2097152 < s.length then (zD,4) else match fullS s with
 | none=>(zD,8)
 | some (d,body,sm)=>if sm ≠ sumS body then (zD,14) else if de d ≠ 0 then (zD,de d) else (d,0)
theorem pc1_len {s r:Str} {p:Pc} (h:pc1 s=some (p,r)):r.length < s.length:=by
 cases s with
 | nil=>cases h
 | cons c s =>
  simp only [pc1] at h
  simp only [List.length_cons]
  split at h
  ·obtain ⟨a,h1,h⟩:=Option.bind_eq_some_iff.1 h
   obtain ⟨l,h2,h⟩:=Option.bind_eq_some_iff.1 h
   cases h
   have:=num_len h1
   have:=num_len h2
   omega
  ·split at h
   ·obtain ⟨a,h1,h⟩:=Option.bind_eq_some_iff.1 h
    obtain ⟨l,h2,h⟩:=Option.bind_eq_some_iff.1 h
    split at h
    ·cases h
    ·cases h
     have:=num_len h1
     have:=(cutS_len h2).1
     omega
   ·cases h
theorem sticky {b b':Bool} {P Q:Prop} (h:(b=false∧P∧b'=false) ∨ (Q∧b'=true)) (hb:b=true):b'=true:=by
 rcases h with ⟨h,_⟩ | ⟨_,h⟩
 ·rw [hb] at h; cases h
 ·exact h
theorem good {b b':Bool} {P Q:Prop} (h:(b=false∧P∧b'=false) ∨ (Q∧b'=true)) (hb:b'=false):b=false∧P:=by
 rcases h with ⟨h,h1,_⟩ | ⟨_,h⟩
 ·exact ⟨h,h1⟩
 ·rw [hb] at h; cases h
theorem fall {b':Bool} {P Q:Prop} {x:Prop} (h:(x∧P∧b'=false) ∨ (Q∧b'=true)) (hb:b'=true):Q:=by
 rcases h with ⟨_,_,h⟩ | ⟨h,_⟩
 ·rw [hb] at h; cases h
 ·exact h
theorem pieceD (s:Str) (hs:s.length≤2097152):StepD s (fun i b=>delta_reader_piece_i1 s i b) pc1:=by
 intro i b hi
 show ∃ v j b',delta_reader_piece_i1 s (i:Int) b=_∧_
 unfold delta_reader_piece_i1
 rw [takeD_eq 1 s i b hi hs,call_some,cut1]
 cases hd:s.drop i with
 | nil=>exact ⟨_,i,_,rfl,Nat.le_refl _,hi,.inr ⟨.inr rfl,rfl⟩⟩
 | cons c r =>
  obtain ⟨hi',hd'⟩:=drop_cons hd
  dsimp only
  cases b with
  | true =>
   rw [cond_true]
   exact ⟨_,i+1,_,rfl,by omega,by omega,.inr ⟨.inl rfl,rfl⟩⟩
  | false =>
   rw [cond_false]
   show ∃ v j b',idxS [c] ((0:Nat):Int) _=_∧_
   rw [idxS_eq (by simp)]
   have e0:([c]:Str)[0]=c:=rfl
   rw [e0]
   have e1:i+Int.toNat 1=i+1:=rfl
   rw [e1]
   obtain ⟨a,j1,b1,h1,l1,m1,q1⟩:=numD s hs (i+1) false (by omega)
   rw [hd'] at q1
   dsimp only at h1
   have hcA:∀ c:UInt8,decide ((c.toNat:Int)=0)=decide (c=0):=u8all (by decide +kernel)
   have hcB:∀ c:UInt8,decide ((c.toNat:Int)=1)=decide (c=1):=u8all (by decide +kernel)
   rw [hcA]
   simp only [pc1]
   by_cases hc:c=0
   ·rw [if_pos hc,decide_eq_true hc,cond_true]
    rw [h1,call_some]
    obtain ⟨l,j2,b2,h2,l2,m2,q2⟩:=numD s hs j1 b1 (by omega)
    dsimp only at h2
    rw [h2,call_some]
    refine ⟨_,j2,b2,rfl,by omega,m2,?_⟩
    cases b2 with
    | false =>
     obtain ⟨g1,g2⟩:=good q2 rfl
     obtain ⟨g3,g4⟩:=good q1 g1
     refine .inl ⟨trivial,?_,rfl⟩
     rw [g4,Option.bind_some,g2,Option.bind_some]
    | true =>
     refine .inr ⟨.inr ?_,rfl⟩
     cases b1 with
     | true =>
      rcases fall q1 rfl with h | h
      ·cases h
      ·rw [h]; rfl
     | false =>
      rcases fall q2 rfl with h | h
      ·cases h
      ·rw [(good q1 rfl).2,Option.bind_some,h]; rfl
   ·rw [if_neg hc,decide_eq_false hc,cond_false,hcB]
    by_cases hc1:c=1
    ·rw [if_pos hc1,decide_eq_true hc1,cond_true,h1,call_some]
     rw [takeD_eq a s j1 b1 m1 hs,call_some]
     cases hx:cutS a (s.drop j1) with
     | none =>
      refine ⟨_,j1,_,rfl,by omega,m1,.inr ⟨.inr ?_,rfl⟩⟩
      cases b1 with
      | true =>
       rcases fall q1 rfl with h | h
       ·cases h
       ·rw [h]; rfl
      | false=>rw [(good q1 rfl).2,Option.bind_some,hx]; rfl
     | some x =>
      obtain ⟨x,y⟩:=x
      obtain ⟨hl,hx8,hsp⟩:=cutS_len hx
      rw [List.length_drop] at hl
      have hy:y=s.drop (j1+a.toNat):=by
       unfold cutS at hx
       split at hx
       ·cases hx; rw [List.drop_drop]
       ·cases hx
      refine ⟨_,j1+a.toNat,_,rfl,by omega,by omega,?_⟩
      cases b1 with
      | true =>
       refine .inr ⟨.inr ?_,by simp⟩
       rcases fall q1 rfl with h | h
       ·cases h
       ·rw [h]; rfl
      | false =>
       rw [(good q1 rfl).2,Option.bind_some,hx,Option.bind_some]
       by_cases he:x=[]
       ·refine .inr ⟨.inr (by rw [if_pos he]),by rw [decide_eq_true he]; rfl⟩
       ·refine .inl ⟨trivial,by rw [if_neg he,hy],by rw [decide_eq_false he]; rfl⟩
    ·rw [if_neg hc1,decide_eq_false hc1,cond_false]
     exact ⟨_,i+1,_,rfl,by omega,by omega,.inr ⟨.inr rfl,rfl⟩⟩
theorem piecesD {Z:Type} (s:Str) (hs:s.length≤2097152) (n:Int) (k:Int × Bool × List Pc→Option Z):∀ (N i:Nat) (b:Bool) (o:List Pc),i≤s.length→o.length≤i→(if b=true then 1 else s.length - i+2)≤N →
  ∃ (j:Nat) (b':Bool) (o':List Pc),loopN N (fun (s_1:Int × Int × Bool × List Pc) nx_47 k_46 =>
  match s_1 with
  | (t33_40,o1_1_41,o1_2_42,o3_43) =>
   bif decide (t33_40 < n) then
    bif o1_2_42 then
     k_46 (t33_40,o1_1_41,o1_2_42,o3_43)
    else
    call (delta_reader_piece_i1 s o1_1_41 o1_2_42) fun r_48 =>
    chk ((o3_43++[r_48.1]).length≤274877906944) <|
    nx_47 (IntKind.i64.wrap (t33_40+1),r_48.2.1,r_48.2.2,o3_43++[r_48.1])
   else
   k_46 (t33_40,o1_1_41,o1_2_42,o3_43)) ((o.length:Int),(i:Int),b,o) (fun s=>match s with
  | (t33_40,o1_1_41,o1_2_42,o3_43)=>k (o1_1_41,o1_2_42,o3_43))=k (((j:Nat):Int),b',o')∧j≤s.length ∧
   ((b=false∧(∃ l,pcs (n - o.length).toNat (s.drop i)=some (l,s.drop j)∧o'=o++l)∧b'=false) ∨ ((b=true ∨ pcs (n - o.length).toNat (s.drop i)=none)∧b'=true)):=by
 intro N
 induction N with
 | zero=>intro i b o _ _ h; split at h <;> omega
 | succ N ih =>
  intro i b o hi ho hN
  unfold loopN
  dsimp only
  by_cases hlt:(o.length:Int) < n
  ·rw [decide_eq_true hlt,cond_true]
   obtain ⟨m,hm⟩:∃ m,(n - (o.length:Int)).toNat=m+1:=⟨(n - (o.length:Int)).toNat - 1,by omega⟩
   rw [hm]
   cases b with
   | true=>exact ⟨i,true,o,rfl,hi,.inr ⟨.inl rfl,rfl⟩⟩
   | false =>
    rw [cond_false]
    obtain ⟨p,j,b',h1,h2,h3,h4⟩:=pieceD s hs i false hi
    dsimp only at h1
    rw [h1,call_some,chk_true (by simp; omega),wrap1 _ (by omega)]
    have hl:(o++[p]).length=o.length+1:=by simp
    have hj:b'=false→i+1≤j:=by
     rintro rfl
     obtain ⟨_,g⟩:=good h4 rfl
     have:=pc1_len g
     simp only [List.length_drop] at this
     omega
    rw [if_neg (by simp)] at hN
    cases b' with
    | true =>
     -- the next round leaves,or the number is reached
     have hnone:pc1 (s.drop i)=none:=by
      rcases fall h4 rfl with h | h
      ·cases h
      ·exact h
     refine ⟨j,true,o++[p],?_,h3,.inr ⟨.inr (by simp only [pcs,hnone,Option.bind_none]),rfl⟩⟩
     obtain ⟨N',rfl⟩:∃ N',N=N'+1:=⟨N - 1,by omega⟩
     unfold loopN
     dsimp only
     rw [cond_true]
     cases decide (((o.length+1:Nat):Int) < n) <;> rfl
    | false =>
     obtain ⟨_,g⟩:=good h4 rfl
     have hj':=hj rfl
     obtain ⟨j',b'',o',i1,i2,i3⟩:=ih j false (o++[p]) h3 (by rw [hl]; omega) (by rw [if_neg (by simp)]; omega)
     rw [hl] at i1 i3
     rw [show (n - ((o.length+1:Nat):Int)).toNat=m by omega] at i3
     refine ⟨j',b'',o',i1,i2,?_⟩
     simp only [pcs,g,Option.bind_some]
     rcases i3 with ⟨_,⟨l,i4,i5⟩,i6⟩ | ⟨i4 | i4,i5⟩
     ·exact .inl ⟨trivial,⟨p::l,by rw [i4,Option.bind_some],by rw [i5,List.append_assoc]; rfl⟩,i6⟩
     ·cases i4
     ·exact .inr ⟨.inr (by rw [i4]; rfl),i5⟩
  ·rw [decide_eq_false hlt,cond_false,show (n - (o.length:Int)).toNat=0 by omega]
   refine ⟨i,b,o,rfl,hi,?_⟩
   cases b with
   | false=>exact .inl ⟨rfl,⟨[],rfl,by simp⟩,rfl⟩
   | true=>exact .inr ⟨.inl rfl,rfl⟩
theorem delta_Parse_eq (s:Str):delta_Parse s=some (parseS s):=by
 unfold delta_Parse parseS
 by_cases hs:2097152 < s.length
 ·rw [decide_eq_true (by omega),if_pos hs]; rfl
 rw [decide_eq_false (by omega),if_neg hs,cond_false]
 replace hs:s.length≤2097152:=by omega
 have ht:=takeD_eq 4 s 0 false (by omega) hs
 rw [Int.natCast_zero,List.drop_zero] at ht
 rw [ht,call_some]
 clear ht
 unfold fullS
 cases h4:cutS 4 s with
 | none=>rfl
 | some x =>
  obtain ⟨x,r0⟩:=x
  rw [Option.bind_some]
  dsimp only
  by_cases hm:x=([79,70,68,49]:Str)
  rotate_left
  ·rw [decide_eq_false hm,if_neg hm]; rfl
  rw [decide_eq_true hm,if_pos hm,Bool.not_true,cond_false]
  have hr0:r0=s.drop 4∧4≤s.length:=by
   have:=(cutS_len h4)
   unfold cutS at h4
   split at h4
   ·cases h4; exact ⟨rfl,by omega⟩
   ·cases h4
  obtain ⟨rfl,hl4⟩:=hr0
  rw [show ((0+Int.toNat 4:Nat):Int)=((4:Nat):Int) from rfl]
  obtain ⟨v1,j1,b1,e1,-,l1,q1⟩:=numD s hs 4 false hl4
  obtain ⟨v2,j2,b2,e2,-,l2,q2⟩:=numD s hs j1 b1 l1
  obtain ⟨v3,j3,b3,e3,-,l3,q3⟩:=sumD s hs j2 b2 l2
  obtain ⟨v4,j4,b4,e4,-,l4,q4⟩:=sumD s hs j3 b3 l3
  obtain ⟨v5,j5,b5,e5,-,l5,q5⟩:=numD s hs j4 b4 l4
  dsimp only at e1 e2 e3 e4 e5
  rw [e1,call_some,e2,call_some,e3,call_some,e4,call_some,jp_eq,e5,call_some]
  obtain ⟨N,hN⟩:∃ N,Fuel=N:=⟨_,rfl⟩
  have hF:1099511627776≤N:=hN ▸ fuel_ge
  rw [hN]
  obtain ⟨j6,b6,o6,e6,l6,q6⟩:=piecesD s hs v5 (fun (s_1:Int × Bool × List Pc)=>match s_1 with
  | (o1_1_25,o1_2_26,o3_27) =>
   call (delta_reader_sum_i1 s o1_1_25 o1_2_26) fun r_29 =>
   bif (r_29.2.2 || (decide (r_29.2.1 < (s.length:Int)))) then
    some ((api_Delta.mk 0 0 [] [] []),8)
   else
   chk (0≤o1_1_25∧o1_1_25≤(s.length:Int)) <|
   call (disk_SumOf (List.take o1_1_25.toNat s)) fun r_31 =>
   bif !decide (r_29.1=r_31) then
    some ((api_Delta.mk 0 0 [] [] []),14)
   else
   call (delta_Check (api_Delta.mk v1 v2 v3 v4 o3_27)) fun r_32 =>
   bif !decide (r_32=0) then
    some ((api_Delta.mk 0 0 [] [] []),r_32)
   else
   some ((api_Delta.mk v1 v2 v3 v4 o3_27),0)) N j5 b5 [] l5 (by simp) (by split <;> omega)
  refine Eq.trans e6 ?_
  dsimp only
  obtain ⟨v7,j7,b7,e7,-,l7,q7⟩:=sumD s hs j6 b6 l6
  dsimp only at e7
  rw [e7,call_some]
  simp only [List.length_nil,Int.natCast_zero,Int.sub_zero,List.nil_append] at q6
  have key:(b7=true∧((num (s.drop 4)).bind fun a=>(num a.2).bind fun b=>(sum8 b.2).bind fun c=>(sum8 c.2).bind fun e=>(num e.2).bind fun k =>
    (pcs k.1.toNat k.2).bind fun l=>(sum8 l.2).bind fun m=>if m.2=[] then some ((⟨a.1,b.1,c.1,e.1,l.1⟩:api_Delta),s.take (s.length - l.2.length),m.1) else none)=none) ∨
    (b7=false∧((num (s.drop 4)).bind fun a=>(num a.2).bind fun b=>(sum8 b.2).bind fun c=>(sum8 c.2).bind fun e=>(num e.2).bind fun k =>
    (pcs k.1.toNat k.2).bind fun l=>(sum8 l.2).bind fun m=>if m.2=[] then some ((⟨a.1,b.1,c.1,e.1,l.1⟩:api_Delta),s.take (s.length - l.2.length),m.1) else none)=if s.drop j7=[] then some ((⟨v1,v2,v3,v4,o6⟩:api_Delta),s.take (s.length - (s.drop j6).length),v7) else none):=by
   rcases q1 with ⟨-,g1,rfl⟩ | ⟨g1 | g1,rfl⟩
   rotate_left
   ·cases g1
   ·rw [g1]; exact .inl ⟨sticky q7 (sticky q6 (sticky q5 (sticky q4 (sticky q3 (sticky q2 rfl))))),rfl⟩
   rw [g1,Option.bind_some]
   rcases q2 with ⟨-,g2,rfl⟩ | ⟨g2 | g2,rfl⟩
   rotate_left
   ·cases g2
   ·rw [g2]; exact .inl ⟨sticky q7 (sticky q6 (sticky q5 (sticky q4 (sticky q3 rfl)))),rfl⟩
   rw [g2,Option.bind_some]
   rcases q3 with ⟨-,g3,rfl⟩ | ⟨g3 | g3,rfl⟩
   rotate_left
   ·cases g3
   ·rw [g3]; exact .inl ⟨sticky q7 (sticky q6 (sticky q5 (sticky q4 rfl))),rfl⟩
   rw [g3,Option.bind_some]
   rcases q4 with ⟨-,g4,rfl⟩ | ⟨g4 | g4,rfl⟩
   rotate_left
   ·cases g4
   ·rw [g4]; exact .inl ⟨sticky q7 (sticky q6 (sticky q5 rfl)),rfl⟩
   rw [g4,Option.bind_some]
   rcases q5 with ⟨-,g5,rfl⟩ | ⟨g5 | g5,rfl⟩
   rotate_left
   ·cases g5
   ·rw [g5]; exact .inl ⟨sticky q7 (sticky q6 rfl),rfl⟩
   rw [g5,Option.bind_some]
   rcases q6 with ⟨-,⟨l,g6,rfl⟩,rfl⟩ | ⟨g6 | g6,rfl⟩
   rotate_left
   ·cases g6
   ·rw [g6]; exact .inl ⟨sticky q7 rfl,rfl⟩
   rw [g6,Option.bind_some]
   rcases q7 with ⟨-,g7,rfl⟩ | ⟨g7 | g7,rfl⟩
   rotate_left
   ·cases g7
   ·rw [g7]; exact .inl ⟨rfl,rfl⟩
   rw [g7,Option.bind_some]
   exact .inr ⟨rfl,rfl⟩
  rcases key with ⟨rfl,hk⟩ | ⟨rfl,hk⟩
  ·rw [hk,Bool.true_or]; rfl
  ·rw [hk]
   dsimp only
   rw [Bool.false_or]
   by_cases hj:s.length≤j7
   ·rw [decide_eq_false (by omega),cond_false,if_pos (List.drop_eq_nil_of_le hj),chk_true (by omega),disk_SumOf_eq,call_some,List.length_drop,Int.toNat_natCast,show s.length - (s.length - j6)=j6 by omega]
    dsimp only
    by_cases hv:v7=sumS (s.take j6)
    ·rw [decide_eq_true hv,if_neg (by simp [hv]),Check_eq,call_some]
     by_cases hd:de ⟨v1,v2,v3,v4,o6⟩=0
     ·rw [decide_eq_true hd,if_neg (by simp [hd])]; rfl
     ·rw [decide_eq_false hd,if_pos hd]; rfl
    ·rw [decide_eq_false hv,if_pos hv]; rfl
   ·rw [decide_eq_true (by omega),if_neg (by rw [List.drop_eq_nil_iff]; exact hj)]; rfl
def lcp:Str→Str→Nat
 | x::a,y::b=>if x=y then lcp a b+1 else 0
 | _,_=>0
theorem lcp_le:∀ (a b:Str),lcp a b≤a.length∧lcp a b≤b.length∧a.take (lcp a b)=b.take (lcp a b)
 | [],b=>by simp [lcp]
 | x::a,[]=>by simp [lcp]
 | x::a,y::b=>by
  have ih:=lcp_le a b
  simp only [lcp]
  split
  ·rename_i h; subst h
   exact ⟨by simp only [List.length_cons]; omega,by simp only [List.length_cons]; omega,by rw [List.take_succ_cons,List.take_succ_cons,ih.2.2]⟩
  ·simp
def bst (b:Str):Str→Nat→Nat × Nat→Nat × Nat
 | [],_,p=>p
 | x::r,k,p=>bst b r (k+1) (if p.2 < lcp (x::r) b then (k,lcp (x::r) b) else p)
def best (a b:Str):Nat × Nat:=bst b a 0 (0,0)
theorem bst_ok {a b:Str}:∀ (r:Str) (k:Nat) (p:Nat × Nat),a.drop k=r→p.1+p.2≤a.length→p.2≤b.length→(a.drop p.1).take p.2=b.take p.2 →
  (bst b r k p).1+(bst b r k p).2≤a.length∧(bst b r k p).2≤b.length∧(a.drop (bst b r k p).1).take (bst b r k p).2=b.take (bst b r k p).2
 | [],_,_,_,h1,h2,h3=>⟨h1,h2,h3⟩
 | x::r,k,p,hr,h1,h2,h3=>by
  obtain ⟨hi,hd⟩:=drop_cons hr
  have hl:=lcp_le (x::r) b
  have hlen:=congrArg List.length hr
  simp only [List.length_drop,List.length_cons] at hlen hl
  simp only [bst]
  split
  ·exact bst_ok r (k+1) _ hd (by simp only; omega) (by simp only; omega) (by simp only; rw [hr]; exact hl.2.2)
  ·exact bst_ok r (k+1) p hd h1 h2 h3
theorem best_ok (a b:Str):(best a b).1+(best a b).2≤a.length∧(best a b).2≤b.length∧(a.drop (best a b).1).take (best a b).2=b.take (best a b).2 :=
 bst_ok a 0 (0,0) (List.drop_zero) (by simp) (by simp) (by simp)
def dataP (data:Str):List Pc:=if data=[] then [] else [⟨0,0,data⟩]
def mkP (a:Str):Nat→Str→Str→List Pc
 | 0,_,_=>[]
 | n+1,bs,data=>if bs=[] then dataP data else
  if (best a bs).2 < 8 then mkP a n (bs.drop 1) (data++bs.take 1) else
  dataP data++⟨((best a bs).1:Int),((best a bs).2:Int),[]⟩::mkP a n (bs.drop (best a bs).2) []
def piecesOf (a b:Str):List Pc:=mkP a (b.length+1) b []
def psz (p:Pc):Int:=if p.Data=[] then p.Long else (p.Data.length:Int)
def tot (l:List Pc):Int:=(l.map psz).sum
theorem peL_good {old:Int}:∀ (l:List Pc) (n:Int),(∀ p ∈ l,Pok old p)→old≤65536→0≤n→n+tot l≤65536→peL old l n=(n+tot l,0)
 | [],n,_,_,_,h=>by
  simp only [tot,List.map_nil,List.sum_nil,Int.add_zero] at h ⊢
  unfold peL
  rw [decide_eq_false (by omega)]; rfl
 | p::l,n,hp,ho,hn,h=>by
  have ht:tot (p::l)=psz p+tot l:=by simp [tot]
  have h0:∀ l:List Pc,(∀ p ∈ l,Pok old p)→0≤tot l:=by
   intro l hl
   induction l with
   | nil=>simp [tot]
   | cons q l ih =>
    have:=ih fun p hp=>hl p (by simp [hp])
    have hq:0≤psz q:=by
     unfold psz
     rcases hl q (by simp) with ⟨a,_,_⟩ | ⟨a,_,c,_⟩
     ·rw [if_neg a]; omega
     ·rw [if_pos a]; omega
    simp only [tot,List.map_cons,List.sum_cons] at this ⊢
    omega
  have h1:=h0 l fun q hq=>hp q (by simp [hq])
  rw [ht] at h ⊢
  unfold peL
  rcases hp p (by simp) with ⟨a,b,c⟩ | ⟨a,b,c,d⟩
  ·have e:psz p=(p.Data.length:Int):=if_neg a
   rw [decide_eq_false a,b,c]
   simp only [Bool.not_false,cond_true,decide_true,Bool.not_true,Bool.or_self,cond_false]
   rw [wrapS (by omega) (by omega),peL_good l _ (fun q hq=>hp q (by simp [hq])) ho (by omega) (by omega),e]
   congr 1; omega
  ·have e:psz p=p.Long:=if_pos a
   rw [decide_eq_true a,decide_eq_false (show ¬ p.At < 0 by omega),decide_eq_false (show ¬ p.Long < 1 by omega),decide_eq_false (show ¬ old < p.At by omega),decide_eq_false (show ¬ old - p.At < p.Long by omega)]
   simp only [Bool.not_true,cond_false,Bool.or_self]
   rw [wrapS (by omega) (by omega),peL_good l _ (fun q hq=>hp q (by simp [hq])) ho (by omega) (by omega),e]
   congr 1; omega
theorem mkP_ok (a:Str):∀ (n:Nat) (bs data:Str),bs.length < n→(∀ p ∈ mkP a n bs data,Pok a.length p∧p.Data.length≤data.length+bs.length) ∧
  (mkP a n bs data).length≤bs.length+(if data=[] then 0 else 1)∧tot (mkP a n bs data)=((data.length+bs.length:Nat):Int)∧made a (mkP a n bs data)=data++bs:=by
 intro n
 induction n with
 | zero=>intro bs data h; omega
 | succ n ih =>
  intro bs data h
  simp only [mkP]
  have hD:(∀ p ∈ dataP data,Pok a.length p∧p.Data.length≤data.length)∧(dataP data).length=(if data=[] then 0 else 1)∧tot (dataP data)=(data.length:Int)∧made a (dataP data)=data:=by
   unfold dataP
   split
   ·rename_i he
    subst he
    exact ⟨by simp,rfl,rfl,rfl⟩
   ·rename_i he
    refine ⟨?_,rfl,?_,?_⟩
    ·intro p hp
     rw [List.mem_singleton] at hp
     subst hp
     exact ⟨.inl ⟨he,rfl,rfl⟩,Nat.le_refl _⟩
    ·simp [tot,psz,he]
    ·simp [made,pm,he]
  by_cases hb:bs=[]
  ·subst hb
   rw [if_pos rfl]
   obtain ⟨h1,h2,h3,h4⟩:=hD
   exact ⟨fun p hp=>⟨(h1 p hp).1,by have:=(h1 p hp).2; simp; omega⟩,by rw [h2]; simp,by rw [h3]; simp,by rw [h4]; simp⟩
  ·rw [if_neg hb]
   have hl:1≤bs.length:=by
    rcases bs with _ | ⟨x,bs⟩
    ·exact absurd rfl hb
    ·simp
   split
   ·have ht:(bs.take 1).length=1:=by rw [List.length_take]; omega
    obtain ⟨h1,h2,h3,h4⟩:=ih (bs.drop 1) (data++bs.take 1) (by rw [List.length_drop]; omega)
    rw [List.length_append,List.length_drop,ht] at h1
    rw [List.length_drop] at h2
    rw [List.length_append,List.length_drop,ht] at h3
    refine ⟨fun p hp=>⟨(h1 p hp).1,by have:=(h1 p hp).2; omega⟩,?_,by rw [h3]; congr 1; omega,by rw [h4,List.append_assoc,List.take_append_drop]⟩
    refine Nat.le_trans h2 ?_
    split <;> omega
   ·rename_i h8
    obtain ⟨b1,b2,b3⟩:=best_ok a bs
    obtain ⟨h1,h2,h3,h4⟩:=ih (bs.drop (best a bs).2) [] (by rw [List.length_drop]; omega)
    rw [List.length_drop] at h1 h2 h3
    rw [if_pos rfl] at h2
    simp only [List.length_nil,Nat.zero_add] at h1 h3
    obtain ⟨d1,d2,d3,d4⟩:=hD
    refine ⟨?_,?_,?_,?_⟩
    ·intro p hp
     rcases List.mem_append.1 hp with hp | hp
     ·have:=d1 p hp; exact ⟨this.1,by omega⟩
     ·rcases List.mem_cons.1 hp with rfl | hp
      ·exact ⟨.inr ⟨rfl,by simp,by simp only; omega,by simp only; omega⟩,by simp⟩
      ·have:=h1 p hp; exact ⟨this.1,by omega⟩
    ·rw [List.length_append,List.length_cons,d2]
     split <;> omega
    ·have:tot (dataP data++⟨((best a bs).1:Int),((best a bs).2:Int),[]⟩::mkP a n (bs.drop (best a bs).2) [])=tot (dataP data)+((best a bs).2+tot (mkP a n (bs.drop (best a bs).2) [])):=by simp [tot,psz]
     rw [this,d3,h3]; omega
    ·have:made a (dataP data++⟨((best a bs).1:Int),((best a bs).2:Int),[]⟩::mkP a n (bs.drop (best a bs).2) [])=made a (dataP data)++((a.drop (best a bs).1).take (best a bs).2++made a (mkP a n (bs.drop (best a bs).2) [])):=by simp [made,pm]
     rw [this,d4,h4,b3,List.nil_append,List.take_append_drop]
theorem pieces_few (a b:Str) (hb:b.length≤600):(piecesOf a b).length≤600:=by
 obtain ⟨h1,h2,h3,h4⟩:=mkP_ok a (b.length+1) b [] (by omega)
 rw [if_pos rfl] at h2
 unfold piecesOf; omega
theorem Delta_dok (a b:Str) (ha:a.length≤600) (hb:b.length≤600):Dok ⟨(a.length:Int),(b.length:Int),sumS a,sumS b,piecesOf a b⟩:=by
 obtain ⟨h1,h2,h3,h4⟩:=mkP_ok a (b.length+1) b [] (by omega)
 rw [if_pos rfl] at h2
 simp only [List.length_nil,Nat.zero_add] at h1 h3
 have hl:=pieces_few a b hb
 have hp:pe (piecesOf a b) (a.length:Int)=((b.length:Int),0):=by
  unfold pe
  rw [bif_f (by rw [decide_eq_false (by omega),decide_eq_false (by omega)]; rfl),bif_f (decide_eq_false (by omega))]
  have ht:tot (piecesOf a b)=(b.length:Int):=h3
  show peL (a.length:Int) (mkP a (b.length+1) b []) 0=_
  rw [peL_good _ 0 (fun p hp=>(h1 p hp).1) (by omega) (by omega) (by omega),h3,Int.zero_add]
 refine ⟨?_,?_⟩
 ·unfold de
  dsimp only
  rw [hp,isS_sumS,isS_sumS,bif_f (by rw [decide_eq_false (show ¬ ((a.length:Int) < 0) by omega),decide_eq_false (show ¬ ((65536:Int) < (a.length:Int)) by omega),decide_eq_false (show ¬ ((b.length:Int) < 0) by omega),decide_eq_false (show ¬ ((65536:Int) < (b.length:Int)) by omega)]; rfl)]
  simp
 ·intro p hp
  have:=(h1 p hp).2
  omega
theorem short_eq (s:Str):Law_short s=some (s.take 600):=by
 unfold Law_short
 rw [chk_true (by omega)]
 congr 1
 by_cases h:s.length≤600
 ·rw [List.take_of_length_le (by omega),List.take_of_length_le h]
 ·rw [show (min (s.length:Int) 600).toNat=600 by omega]
theorem short_len (s:Str):(s.take 600).length≤600:=by rw [List.length_take]; omega
theorem printS_len {d:api_Delta} (h:Dok d):12≤(printS d).length∧(printS d).length≤5300000000:=by
 have h1:=headS_len d
 have h2:=flat_len h.sm
 have h3:=(de_ok h.ok).2.2.2.2.2.2.1
 have e:(printS d).length=(headS d).length+(d.Pieces.flatMap pp).length+8:=by
  unfold printS bodyS
  simp only [List.length_append,raw8_len]
 have h4:4≤(headS d).length:=by
  unfold headS
  simp only [List.length_append,List.length_cons,List.length_nil]; omega
 rw [e]; omega
section
open Go.Sfa
def cvE (l:Ed):List delta_edge:=l.map fun p=>⟨(p.1.toNat:Int),(p.2:Int)⟩
def cvL:Option Nat→Int
 | none=>-1
 | some k=>(k:Int)
def cv1 (s:Ps):delta_state:=⟨(s.lg:Int),(s.fi:Int),cvL s.lk,cvE s.ed⟩
theorem u8_int {a b:UInt8}:(a.toNat:Int)=(b.toNat:Int) ↔ a=b:=⟨fun h=>UInt8.toNat_inj.1 (by omega),fun h=>by rw [h]⟩
theorem next_eq (s:Ps) (c:UInt8):delta_state_next_i1 (cv1 s) (c.toNat:Int)=some (cvL (nxE s.ed c)):=by
 unfold delta_state_next_i1
 rw [jp_eq]
 have key:∀ (l:Ed) (q:Nat),forL (cvE l) q (fun i_15 e_17 s nx_14 k_13 =>
  bif decide (e_17.c=(c.toNat:Int)) then
   some e_17.to
  else
  nx_14 ()) () (fun _=>some (-1))=some (cvL (nxE l c)):=by
  intro l
  induction l with
  | nil=>intro q; rfl
  | cons p l ih =>
   intro q
   rw [show cvE (p::l)=(⟨(p.1.toNat:Int),(p.2:Int)⟩:delta_edge)::cvE l from rfl,nxE_cons]
   unfold forL
   dsimp only
   by_cases h:p.1=c
   ·rw [decide_eq_true (u8_int.2 h),cond_true,if_pos h]; rfl
   ·rw [decide_eq_false (fun k=>h (u8_int.1 k)),cond_false,if_neg h]
    exact ih (q+1)
 exact key s.ed 0
theorem getD_cv (ps:List Ps) {p:Nat} (h:p < ps.length):(ps.map cv1).getD p (delta_state.mk 0 0 0 [])=cv1 (Sfa.st ps p):=by
 simp [List.getD_eq_getElem?_getD,Sfa.st,h]
theorem set_cv (ps:List Ps) (p:Nat) (x:Ps):List.set (ps.map cv1) p (cv1 x)=(ps.set p x).map cv1:=by rw [List.map_set]
theorem setE_step {l:Ed} {c:UInt8} {t q:Nat} (hq:q < l.length) (hne:l[q].1 ≠ c) (h:setE l c t=l.take q++setE (l.drop q) c t):setE l c t=l.take (q+1)++setE (l.drop (q+1)) c t:=by
 rw [h,List.drop_eq_getElem_cons hq]
 simp only [setE,if_neg hne]
 rw [List.take_succ_eq_append_getElem hq,List.append_assoc]
 rfl
theorem set_eq (ps:List Ps) (p:Nat) (c:UInt8) (to:Nat) (hp:p < ps.length) (hl:(Sfa.st ps p).ed.length≤1000000) :
  delta_state_set_i1 p (c.toNat:Int) (to:Int) (ps.map cv1)=some ((ps.set p { Sfa.st ps p with ed:=setE (Sfa.st ps p).ed c to }).map cv1):=by
 unfold delta_state_set_i1
 rw [chk_true (by simpa using hp),jp_eq]
 simp only [getD_cv ps hp]
 generalize hx:Sfa.st ps p=x at *
 obtain ⟨N,hN⟩:∃ N,Fuel=N:=⟨_,rfl⟩
 have hN2:1099511627776≤N:=hN ▸ fuel_ge
 rw [hN]
 clear hN
 have hel:(cv1 x).edges.length=x.ed.length:=by simp [cv1,cvE]
 refine loopN_run (S:=Int) (fun s=>∃ q:Nat,s=q∧q≤x.ed.length∧setE x.ed c to=x.ed.take q++setE (x.ed.drop q) c to) (fun s=>x.ed.length - s.toNat) (fun _=>some ((ps.set p { x with ed:=setE x.ed c to }).map cv1)) ?_ N 0 ⟨0,rfl,by omega,by simp⟩ (by first | omega | (simp only; omega))
 rintro s nx ⟨q,rfl,h1,h2⟩ hnx
 rw [hel]
 by_cases h:q < x.ed.length
 ·have hg:(cv1 x).edges.getD (q:Int).toNat (delta_edge.mk 0 0)=⟨(x.ed[q].1.toNat:Int),(x.ed[q].2:Int)⟩:=by
   simp [cv1,cvE,List.getD_eq_getElem?_getD,h]
  rw [decide_eq_true (by omega),cond_true,chk_true (by omega)]
  simp only [hg]
  by_cases e:x.ed[q].1=c
  ·rw [decide_eq_true (u8_int.2 e),cond_true,chk_true (by omega)]
   show some _=some _
   congr 1
   rw [← set_cv]
   congr 1
   rw [h2,List.drop_eq_getElem_cons h]
   have e2:setE (x.ed[q]::x.ed.drop (q+1)) c to=(c,to)::x.ed.drop (q+1):=by simp [setE,e]
   rw [e2]
   have e3:x.ed.take q++(c,to)::x.ed.drop (q+1)=x.ed.set q (c,to):=by rw [List.set_eq_take_append_cons_drop,if_pos h]
   rw [e3]
   simp [cv1,cvE,List.map_set,e]
  ·rw [decide_eq_false (fun k=>e (u8_int.1 k)),cond_false,wrap1 q (by omega)]
   exact hnx _ ⟨q+1,rfl,by omega,setE_step h e h2⟩ (by simp only [Int.toNat_natCast]; omega)
 ·obtain rfl:q=x.ed.length:=by omega
  rw [decide_eq_false (by omega),cond_false,chk_true (by simp [cv1,cvE]; omega)]
  show some _=some _
  congr 1
  rw [← set_cv]
  congr 1
  rw [h2]
  simp [cv1,cvE,setE]
end
section
open Go.Sfa
def dpt (L:Nat→B):Option Nat→Nat
 | none=>0
 | some p=>(L p).length+1
def mz (L:Nat→B) (i:Int):Nat:=if i < 0 then 0 else (L i.toNat).length+1
theorem mz_cv (L:Nat→B) (po:Option Nat):mz L (cvL po)=dpt L po:=by
 cases po with
 | none=>rfl
 | some p =>
  show mz L (p:Int)=_
  unfold mz
  rw [if_neg (by omega),Int.toNat_natCast]; rfl
section
variable {S Z α:Type}
theorem loopN_good {f:S→(S→Option Z)→(S→Option Z)→Option Z} {k:S→Option Z} (inv:S→Prop) (mu:S→Nat) (G:Option Z→Prop)
  (h:∀ s nx,inv s→(∀ s',inv s'→mu s' < mu s→G (nx s'))→G (f s nx k)):∀ (N:Nat) (s:S),inv s→mu s < N→G (loopN N f s k)
 | 0,s,_,hm=>by omega
 | N+1,s,hi,hm=>by
  unfold loopN
  exact h s _ hi fun s' hs' hlt=>loopN_good inv mu G h N s' hs' (by omega)
theorem forL_good {f:Nat→α→S→(S→Option Z)→(S→Option Z)→Option Z} {k:S→Option Z} (inv:Nat→List α→S→Prop) (G:Option Z→Prop)
  (h0:∀ i s,inv i [] s→G (k s)) (h1:∀ i x l s nx,inv i (x::l) s→(∀ s',inv (i+1) l s'→G (nx s'))→G (f i x s nx k)) :
  ∀ (l:List α) (i:Nat) (s:S),inv i l s→G (forL l i f s k)
 | [],i,s,h=>h0 i s h
 | x::l,i,s,h=>h1 i x l s _ h fun s' hs=>forL_good inv G h0 h1 l (i+1) s' hs
end
theorem cvL_nat (k:Nat):cvL (some k)=(k:Int):=rfl
theorem loop1_eq {w:B} {c:UInt8} {ps0:List Ps} {L:Nat→B} {last n:Nat} {nw:Ps} (h:Inv w (vw ps0) L last) (hn:n=ps0.length) (hnl:n≤100000) (hw:w.length≤100000) (Bn:Nat) (hBn:Bn≤500000) (hed:∀ s,(Sfa.st ps0 s).ed.length≤Bn) (hnw:nw.ed.length≤Bn)
  (N:Nat) (hN2:1099511627776≤N) {Z:Type} (K:Int × List delta_state→Option Z) (G:Option Z→Prop)
  (hK:∀ po ps,W1 w c ps0 L nw po ps→(∀ p,po=some p→(nxE (Sfa.st ps p).ed c).isSome=true)→(∀ s,(Sfa.st ps s).ed.length≤Bn+w.length+1)→G (K (cvL po,ps.map cv1))) :
 G <| loopN N (fun s nx_404 k_403 =>
  match s with
  | (p_389,o1_390) =>
   chk ((decide (0≤p_389))=true→(0≤p_389∧p_389 < (o1_390.length:Int))) <|
   callG (decide (0≤p_389)) (delta_state_next_i1 (o1_390.getD p_389.toNat (delta_state.mk 0 0 0 [])) (c.toNat:Int)) 0 fun r_406 =>
   bif ((decide (0≤p_389)) && (decide (r_406 < 0))) then
    chk (0≤p_389∧p_389 < (o1_390.length:Int)) <|
    call (delta_state_set_i1 p_389.toNat (c.toNat:Int) (n:Int) o1_390) fun r_414 =>
    chk (0≤p_389∧p_389 < (r_414.length:Int)) <|
    nx_404 ((r_414.getD p_389.toNat (delta_state.mk 0 0 0 [])).link,r_414)
   else
   k_403 (p_389,o1_390)) ((last:Int),(ps0++[nw]).map cv1) (fun s=>match s with
  | (p_389,o1_390) =>
   K (p_389,o1_390)):=by
 have hlw:L last=w:=h.last.2
 have hl0:last < ps0.length:=h.last.1
 refine loopN_good (S:=Int × List delta_state) (fun s=>∃ (po:Option Nat) (ps:List Ps),s=(cvL po,ps.map cv1)∧W1 w c ps0 L nw po ps∧∀ s,(Sfa.st ps s).ed.length+dpt L po≤Bn+w.length+1) (fun s=>mz L s.1) G ?_ N ((last:Int),(ps0++[nw]).map cv1) ⟨some last,ps0++[nw],rfl,.start h nw,fun s=>?_⟩ ?_
 ·rintro _ nx ⟨po,ps,rfl,k,hb⟩ hnx
  dsimp only at hnx ⊢
  cases po with
  | none =>
   rw [show cvL none=(-1:Int) from rfl,show decide ((0:Int)≤-1)=false from rfl,chk_true (fun h=>by cases h),callG_false,Bool.false_and,cond_false]
   exact hK none ps k (fun p e=>by cases e) fun s=>by have:=hb s; omega
  | some p =>
   obtain ⟨hp,hpw⟩:=k.at_ p rfl
   have hpl:p < ps.length:=by rw [k.len]; omega
   rw [cvL_nat,decide_eq_true (by omega),chk_true (fun _=>by simp; omega),callG_true,Int.toNat_natCast,getD_cv ps hpl,next_eq,call_some,Bool.true_and]
   cases hq:nxE (Sfa.st ps p).ed c with
   | some q =>
    rw [cvL_nat,decide_eq_false (by omega),cond_false]
    exact hK (some p) ps k (fun p' e=>by cases e; rw [hq]; rfl) fun s=>by have:=hb s; omega
   | none =>
    rw [show decide (cvL none < 0)=true from rfl,cond_true,chk_true (by simp; omega)]
    have hbp:=hb p
    rw [set_eq ps p c n hpl (by omega),call_some,chk_true (by simp; omega)]
    subst hn
    have k2:=k.next h hq
    have hst:Sfa.st (ps.set p { Sfa.st ps p with ed:=setE (Sfa.st ps p).ed c ps0.length }) p={ Sfa.st ps p with ed:=setE (Sfa.st ps p).ed c ps0.length }:=by rw [st_set ps _ hpl,if_pos rfl]
    rw [getD_cv _ (by simp; omega),hst]
    have hd:dpt L (Sfa.st ps p).lk+1≤dpt L (some p):=by
     cases e:(Sfa.st ps p).lk with
     | none=>simp [dpt]
     | some r =>
      rw [k.lk p hp] at e
      have:=((chain_next h hp hpw).1 r e).2.2
      simp only [dpt]; omega
    refine hnx _ ⟨(Sfa.st ps p).lk,_,rfl,k2,fun s=>?_⟩ ?_
    ·rw [st_set ps _ hpl]
     split
     ·have:=setE_len (Sfa.st ps p).ed c ps0.length
      have:=hb p
      simp only; omega
     ·have:=hb s; omega
    ·show mz L (cvL (Sfa.st ps p).lk) < mz L (cvL (some p))
     rw [mz_cv,mz_cv]; omega
 ·simp only [dpt]
  rw [st_app,hlw]
  split
  ·omega
  ·have:=hed s; omega
 ·show mz L (cvL (some last)) < N
  rw [mz_cv]; simp only [dpt]; rw [hlw]; omega
theorem loop2_eq {w:B} {c:UInt8} {ps0 ps1:List Ps} {L:Nat→B} {last p q hf:Nat} {nw cl:Ps} (h:Inv w (vw ps0) L last) (k1:W1 w c ps0 L nw (some p) ps1) (hq0:nxE (Sfa.st ps1 p).ed c=some q) (hn:hf=ps0.length+1) (hnl:ps0.length≤100000) (hw:w.length≤100000) (Bn:Nat) (hBn:Bn≤800000) (hed:∀ s,(Sfa.st (ps1++[cl]) s).ed.length≤Bn)
  (N:Nat) (hN2:1099511627776≤N) {Z:Type} (K:Int × List delta_state→Option Z) (G:Option Z→Prop)
  (hK:∀ po ps,W2 w c ps0 ps1 L p q cl po ps→(∀ p',po=some p'→nxE (Sfa.st ps p').ed c ≠ some q)→(∀ s,(Sfa.st ps s).ed.length≤Bn+w.length+1)→G (K (cvL po,ps.map cv1))) :
 G <| loopN N (fun s nx_363 k_362 =>
    match s with
    | (p_348,o1_349) =>
     chk ((decide (0≤p_348))=true→(0≤p_348∧p_348 < (o1_349.length:Int))) <|
     callG (decide (0≤p_348)) (delta_state_next_i1 (o1_349.getD p_348.toNat (delta_state.mk 0 0 0 [])) (c.toNat:Int)) 0 fun r_365 =>
     bif ((decide (0≤p_348)) && (decide (r_365=(q:Int)))) then
      chk (0≤p_348∧p_348 < (o1_349.length:Int)) <|
      call (delta_state_set_i1 p_348.toNat (c.toNat:Int) (hf:Int) o1_349) fun r_373 =>
      chk (0≤p_348∧p_348 < (r_373.length:Int)) <|
      nx_363 ((r_373.getD p_348.toNat (delta_state.mk 0 0 0 [])).link,r_373)
     else
     k_362 (p_348,o1_349)) ((p:Int),(ps1++[cl]).map cv1) (fun s=>match s with
    | (p_348,o1_349) =>
     K (p_348,o1_349)):=by
 obtain ⟨hp0,hpw0⟩:=k1.at_ p rfl
 have hpl0:(L p).length≤w.length:=hpw0.length_le
 refine loopN_good (S:=Int × List delta_state) (fun s=>∃ (po:Option Nat) (ps:List Ps),s=(cvL po,ps.map cv1)∧W2 w c ps0 ps1 L p q cl po ps∧∀ s,(Sfa.st ps s).ed.length+dpt L po≤Bn+w.length+1) (fun s=>mz L s.1) G ?_ N ((p:Int),(ps1++[cl]).map cv1) ⟨some p,ps1++[cl],rfl,.start h k1 cl,fun s=>?_⟩ ?_
 ·rintro _ nx ⟨po,ps,rfl,k,hb⟩ hnx
  dsimp only at hnx ⊢
  cases po with
  | none =>
   rw [show cvL none=(-1:Int) from rfl,show decide ((0:Int)≤-1)=false from rfl,chk_true (fun h=>by cases h),callG_false,Bool.false_and,cond_false]
   exact hK none ps k (fun p e=>by cases e) fun s=>by have:=hb s; omega
  | some p' =>
   obtain ⟨hp,hpw,_⟩:=k.at_ p' rfl
   have hpl:p' < ps.length:=by rw [k.len]; omega
   rw [cvL_nat,decide_eq_true (by omega),chk_true (fun _=>by simp; omega),callG_true,Int.toNat_natCast,getD_cv ps hpl,next_eq,call_some,Bool.true_and]
   by_cases hq:nxE (Sfa.st ps p').ed c=some q
   ·rw [hq,cvL_nat,decide_eq_true rfl,cond_true,chk_true (by simp; omega)]
    have hbp:=hb p'
    rw [set_eq ps p' c hf hpl (by omega),call_some,chk_true (by simp; omega)]
    subst hn
    have k2:=k.next h k1 hq
    have hst:Sfa.st (ps.set p' { Sfa.st ps p' with ed:=setE (Sfa.st ps p').ed c (ps0.length+1) }) p'={ Sfa.st ps p' with ed:=setE (Sfa.st ps p').ed c (ps0.length+1) }:=by rw [st_set ps _ hpl,if_pos rfl]
    rw [getD_cv _ (by simp; omega),hst]
    have hd:dpt L (Sfa.st ps p').lk+1≤dpt L (some p'):=by
     cases e:(Sfa.st ps p').lk with
     | none=>simp [dpt]
     | some r =>
      rw [k.lk p' hp] at e
      have:=((chain_next h hp hpw).1 r e).2.2
      simp only [dpt]; omega
    refine hnx _ ⟨(Sfa.st ps p').lk,_,rfl,k2,fun s=>?_⟩ ?_
    ·rw [st_set ps _ hpl]
     split
     ·have:=setE_len (Sfa.st ps p').ed c (ps0.length+1)
      have:=hb p'
      simp only; omega
     ·have:=hb s; omega
    ·show mz L (cvL (Sfa.st ps p').lk) < mz L (cvL (some p'))
     rw [mz_cv,mz_cv]; omega
   ·have hne:cvL (nxE (Sfa.st ps p').ed c) ≠ (q:Int):=by
     intro e
     cases e2:nxE (Sfa.st ps p').ed c with
     | none=>rw [e2] at e; simp only [cvL] at e; omega
     | some r =>
      rw [e2] at e hq
      simp only [cvL] at e
      exact hq (congrArg some (by omega))
    rw [decide_eq_false hne,cond_false]
    exact hK (some p') ps k (fun p2 e=>by cases e; exact hq) fun s=>by have:=hb s; omega
 ·simp only [dpt]
  have:=hed s; omega
 ·show mz L (cvL (some p)) < N
  rw [mz_cv]; simp only [dpt]; omega
end
section
open Go.Sfa
theorem letv_eq {A Z:Type} (a:A) (k:A→Option Z):letv a k=k a:=rfl
theorem jp_good {S Z:Type} {F:S→Option Z} {m:(S→Option Z)→Option Z} {G:Option Z→Prop} (h:∀ K,(∀ s,K s=F s)→G (m K)):G (jp F m):=h F fun _=>rfl
theorem lnk_cv (ps:List Ps) {s t:Nat} (hs:s < ps.length) :
  List.set (ps.map cv1) s (delta_state.mk (((ps.map cv1).getD s (delta_state.mk 0 0 0 [])).long) (((ps.map cv1).getD s (delta_state.mk 0 0 0 [])).end_) (t:Int) (((ps.map cv1).getD s (delta_state.mk 0 0 0 [])).edges))=(lnk ps s t).map cv1:=by
 rw [getD_cv ps hs]
 exact set_cv ps s { Sfa.st ps s with lk:=some t }
theorem add_eq {w:B} {c:UInt8} {ps0:List Ps} {L:Nat→B} {last:Nat} (h:Inv w (vw ps0) L last) (hnl:ps0.length≤2 * w.length+1) (hw:w.length < 600) (hed:∀ s,(Sfa.st ps0 s).ed.length≤w.length * (w.length+1)) :
  ∃ ps' L',delta_automaton_add_i1 (c.toNat:Int) ((w.length+1:Nat):Int) (last:Int) (ps0.map cv1)=some ((ps0.length:Int),ps'.map cv1)∧Inv (w++[c]) (vw ps') L' ps0.length∧ps'.length≤ps0.length+2∧∀ s,(Sfa.st ps' s).ed.length≤(w.length+1) * (w.length+2):=by
 let G:Option (Int × List delta_state)→Prop:=fun r=>∃ ps' L',r=some ((ps0.length:Int),ps'.map cv1)∧Inv (w++[c]) (vw ps') L' ps0.length∧ps'.length≤ps0.length+2∧∀ s,(Sfa.st ps' s).ed.length≤(w.length+1) * (w.length+2)
 have hq1:w.length * (w.length+1)≤600 * 600:=Nat.mul_le_mul (by omega) (by omega)
 have hq2:w.length * (w.length+1)+w.length+1+w.length+1=(w.length+1) * (w.length+2):=by
  generalize w.length=n
  rw [Nat.add_mul,Nat.mul_add,Nat.mul_add]; omega
 obtain ⟨N,hN⟩:∃ N,Fuel=N:=⟨_,rfl⟩
 have hN2:1099511627776≤N:=hN ▸ fuel_ge
 show G (delta_automaton_add_i1 _ _ _ _)
 unfold delta_automaton_add_i1
 rw [hN]
 clear hN
 have e0:ps0.map cv1++[(delta_state.mk ((w.length+1:Nat):Int) ((w.length+1:Nat):Int) 0 [])]=(ps0++[nwS w 0]).map cv1:=by
  rw [List.map_append]; rfl
 rw [e0,chk_true (by simp; omega),letv_eq,List.length_map]
 refine jp_good fun K hK=>?_
 refine loop1_eq (c:=c) (nw:=nwS w 0) h rfl (by omega) (by omega) (w.length * (w.length+1)) (by omega) hed (show 0≤_ from Nat.zero_le _) N hN2 K G fun po ps k hpo hb=>?_
 rw [hK]
 dsimp only
 have hpsl:=k.len
 cases po with
 | none =>
  rw [show decide (cvL none < 0)=true from rfl,cond_true]
  exact ⟨ps,_,rfl,k.endNone h,by omega,fun s=>by have:=hb s; omega⟩
 | some p =>
  obtain ⟨hp,hpw⟩:=k.at_ p rfl
  have hpl:p < ps.length:=by omega
  obtain ⟨q,hq⟩:=Option.isSome_iff_exists.1 (hpo p rfl)
  have hq0:nxE (Sfa.st ps0 p).ed c=some q:=(k.below h hq).1
  have hqn:q < ps0.length:=(h.nx p c q hp hq0).1
  have hql:q < ps.length:=by omega
  have hlgp:(Sfa.st ps p).lg=(L p).length:=(k.lg p hp).trans (h.lg p hp)
  have hlpw:=hpw.length_le
  rw [cvL_nat,decide_eq_false (by omega),cond_false,chk_true (by simp; omega)]
  simp only [Int.toNat_natCast,getD_cv ps hpl]
  rw [next_eq,hq,call_some,cvL_nat,chk_true (by simp; omega),chk_true (by simp; omega)]
  simp only [Int.toNat_natCast,getD_cv ps hql]
  have e1:IntKind.i64.wrap ((cv1 (Sfa.st ps p)).long+1)=(((Sfa.st ps p).lg+1:Nat):Int):=wrap1 _ (by omega)
  simp only [e1]
  by_cases hlg:(Sfa.st ps q).lg=(Sfa.st ps p).lg+1
  ·rw [decide_eq_true (show (cv1 (Sfa.st ps q)).long=_ from congrArg Nat.cast hlg),cond_true,chk_true (by simp; omega),letv_eq]
   refine ⟨ps.set ps0.length (nwS w q),_,?_,k.endA h hq hlg hqn,by simp; omega,fun s=>?_⟩
   ·congr 2
    rw [getD_cv ps (by omega),k.new]
    exact set_cv ps ps0.length (nwS w q)
   ·rw [st_set _ _ (by omega)]
    split
    ·exact Nat.zero_le _
    ·have:=hb s; omega
  ·rw [decide_eq_false (show ¬ (cv1 (Sfa.st ps q)).long=_ from fun e=>hlg (Int.ofNat_inj.1 e)),cond_false,chk_true (by simp; omega),chk_true (by simp; omega)]
   have hbq:=hb q
   rw [chk_true (by simp [cv1,cvE]; omega)]
   have e2:ps.map cv1++[(delta_state.mk (((Sfa.st ps p).lg+1:Nat):Int) ((cv1 (Sfa.st ps q)).end_) ((cv1 (Sfa.st ps q)).link) ([]++((cv1 (Sfa.st ps q)).edges)))]=(ps++[cln ps p q]).map cv1:=by
    rw [List.map_append]; rfl
   rw [e2,chk_true (by simp; omega),letv_eq,List.length_map]
   refine jp_good fun K2 hK2=>?_
   refine loop2_eq (c:=c) h k hq hpsl (by omega) (by omega) (w.length * (w.length+1)+w.length+1) (by omega) (fun s=>?_) N hN2 (fun s=>K2 s.2) G fun po2 ps2 k2 hpo2 hb2=>?_
   ·rw [st_app]
    split
    ·exact hbq
    ·exact hb s
   ·dsimp only
    rw [hK2]
    have hl2:=k2.len
    rw [chk_true (by simp; omega),letv_eq,hpsl,lnk_cv ps2 (t:=ps0.length+1) (by omega)]
    have hll:(lnk ps2 q (ps0.length+1)).length=ps2.length:=by simp [lnk]
    rw [chk_true (by simp; omega),letv_eq,lnk_cv (lnk ps2 q (ps0.length+1)) (t:=ps0.length+1) (by omega)]
    refine ⟨lnk (lnk ps2 q (ps0.length+1)) ps0.length (ps0.length+1),_,rfl,k2.endB h k hq hqn hlg hpo2,by simp [lnk]; omega,fun s=>?_⟩
    obtain ⟨_,_,a3,_⟩:=lnk_st (lnk ps2 q (ps0.length+1)) (s:=ps0.length) (t:=ps0.length+1) (by omega) s
    obtain ⟨_,_,b3,_⟩:=lnk_st ps2 (s:=q) (t:=ps0.length+1) (by omega) s
    rw [a3,b3]
    have:=hb2 s
    omega
end
section
open Go.Sfa
theorem newAutomaton_eq (a:Str) (ha:a.length≤600):∃ ps L last,delta_newAutomaton a=some (ps.map cv1,((last:Nat):Int))∧Inv a (vw ps) L last∧ps.length≤2 * a.length+1:=by
 let G:Option (List delta_state × Int)→Prop:=fun r=>∃ ps L last,r=some (ps.map cv1,((last:Nat):Int))∧Inv a (vw ps) L last∧ps.length≤2 * a.length+1
 show G (delta_newAutomaton a)
 unfold delta_newAutomaton
 rw [letv_eq]
 refine jp_good fun K hK=>?_
 refine forL_good (S:=List delta_state × Int) (fun i l s=>∃ w ps L last,a=w++l∧i=w.length∧s=(ps.map cv1,((last:Nat):Int))∧Inv w (vw ps) L last∧ps.length≤2 * w.length+1∧∀ s,(Sfa.st ps s).ed.length≤w.length * (w.length+1)) G ?_ ?_ a 0 ([delta_state.mk 0 0 (-1) []],0) ⟨[],[s00],fun _=>[],0,rfl,rfl,rfl,.init,Nat.le_refl _,fun s=>?_⟩
 ·rintro i _ ⟨w,ps,L,last,e,_,rfl,h,hl,_⟩
  rw [List.append_nil] at e
  subst e
  dsimp only
  rw [hK]
  exact ⟨ps,L,last,rfl,h,hl⟩
 ·rintro i c l _ nx ⟨w,ps,L,last,e,rfl,rfl,h,hl,hb⟩ hnx
  have hw:w.length < 600:=by rw [e] at ha; simp at ha; omega
  obtain ⟨ps',L',e1,h',hl',hb'⟩:=add_eq (c:=c) h hl hw hb
  dsimp only
  rw [wrap1 _ (by omega)]
  rw [e1,call_some]
  exact hnx _ ⟨w++[c],ps',L',ps.length,by rw [e]; simp,by simp,rfl,h',by simp; omega,by simpa using hb'⟩
 ·have:Sfa.st [s00] s=s00:=by
   cases s with
   | zero=>rfl
   | succ s=>rfl
  rw [this]
  exact Nat.zero_le _
theorem longest_eq {a:Str} {ps:List Ps} {L:Nat→B} {last:Nat} (h:Inv a (vw ps) L last) (ha:a.length≤600) (t:Str) (ht:t.length≤600) (x:Int) :
  delta_automaton_longest_i1 t x (ps.map cv1)=some (((Sfa.bst a t).1:Int),((Sfa.bst a t).2:Int)):=by
 unfold delta_automaton_longest_i1
 rw [jp_eq]
 obtain ⟨N,hN⟩:∃ N,Fuel=N:=⟨_,rfl⟩
 have hN2:1099511627776≤N:=hN ▸ fuel_ge
 rw [hN]
 clear hN
 refine loopN_run (S:=Int × Int) (fun s=>∃ m q:Nat,s=((m:Int),(q:Int))∧m≤t.length∧q < ps.length∧Top a (t.take m) (L q)) (fun s=>t.length - s.1.toNat) (fun _=>some (((Sfa.bst a t).1:Int),((Sfa.bst a t).2:Int))) ?_ N (0,0) ⟨0,0,rfl,by omega,h.pos,by simpa using top0 h⟩ (by simp only; omega)
 rintro _ nx ⟨m,q,rfl,hm,hq,htop⟩ hnx
 dsimp only
 have fin:(m=t.length ∨ ¬ Fc a (t.take (m+1)))→(chk (0≤(q:Int)∧(q:Int) < ((ps.map cv1).length:Int)) <| some (IntKind.i64.wrap ((((ps.map cv1).getD (q:Int).toNat (delta_state.mk 0 0 0 [])).end_) - (m:Int)),(m:Int)))=some (((Sfa.bst a t).1:Int),((Sfa.bst a t).2:Int)):=by
  intro hn
  rw [chk_true (by simp; omega)]
  have hf:=htop.first (h.fi q hq)
  obtain ⟨h1,h2⟩:=bst_walk hm hf hn
  have h3:=hf.1.1
  simp only [Int.toNat_natCast,getD_cv ps hq,h2]
  have h4:(cv1 (Sfa.st ps q)).end_=((vw ps).fi q:Int):=rfl
  rw [h4,wrapS (by omega) (by omega)]
  congr 2
  omega
 by_cases hc:m < t.length
 ·rw [decide_eq_true (by omega),cond_true,chk_true (by simp; omega),idxS_eq hc]
  simp only [Int.toNat_natCast,getD_cv ps hq]
  rw [next_eq,call_some]
  have htk:t.take (m+1)=t.take m++[t[m]]:=List.take_succ_eq_append_getElem hc
  cases hx:nxE (Sfa.st ps q).ed t[m] with
  | none =>
   rw [show decide (cvL none < 0)=true from rfl,cond_true]
   have fin2:=fin (.inr ?_)
   ·simpa only [Int.toNat_natCast,getD_cv ps hq] using fin2
   rw [htk]
   exact htop.no (h.nx0 q _ hq hx)
  | some r =>
   obtain ⟨hr,htr⟩:=h.nx q _ r hq hx
   rw [cvL_nat,decide_eq_false (by omega),cond_false,wrap1 m (by omega)]
   refine hnx _ ⟨m+1,r,rfl,hc,hr,?_⟩ (by simp only [Int.toNat_natCast]; omega)
   rw [htk]
   exact htop.go htr
 ·rw [decide_eq_false (by omega),cond_false]
  exact fin (.inl (by omega))
end
section
open Go.Sfa
theorem lcp_cpl:∀ a b:Str,lcp a b=cpl a b
 | [],b=>by simp [lcp,cpl]
 | x::a,[]=>by simp [lcp,cpl]
 | x::a,y::b=>by
  simp only [lcp,cpl]
  rw [lcp_cpl a b]
theorem bst_scan {a b:Str}:∀ (r:Str) (k:Nat),a.drop k=r→Go.Md.bst b r k (scan a b k)=scan a b (k+r.length)
 | [],k,_=>rfl
 | x::r,k,h=>by
  obtain ⟨hi,hd⟩:=drop_cons h
  have:=bst_scan (b:=b) r (k+1) hd
  simp only [Go.Md.bst,List.length_cons]
  rw [show k+(r.length+1)=k+1+r.length by omega,← this]
  simp only [scan]
  rw [h,lcp_cpl]
theorem best_bst (a b:Str):best a b=Sfa.bst a b:=by
 have:=bst_scan (b:=b) a 0 List.drop_zero
 unfold best Sfa.bst
 rw [Nat.zero_add] at this
 exact this
theorem take_snoc (b:Str) {f j:Nat} (h:f≤j) (hj:j < b.length):(b.drop f).take (j - f)++(b.drop j).take 1=(b.drop f).take (j+1 - f):=by
 have e:(b.drop j).take 1=((b.drop f).drop (j - f)).take 1:=by rw [List.drop_drop,Nat.add_sub_cancel' h]
 rw [e,show j+1 - f=(j - f)+1 by omega,List.take_add]
theorem dataP_cut (b:Str) {f j:Nat} (h:f≤j) (hj:j≤b.length):dataP ((b.drop f).take (j - f))=if f < j then [⟨0,0,(b.drop f).take (j - f)⟩] else []:=by
 unfold dataP
 have hl:((b.drop f).take (j - f)).length=j - f:=by simp; omega
 by_cases e:f < j
 ·rw [if_pos e,if_neg fun h=>by rw [h] at hl; simp at hl; omega]
 ·rw [if_neg e,if_pos (List.length_eq_zero_iff.1 (by omega))]
theorem make_loop {Z:Type} (a b:Str) (ha:a.length≤600) (hb:b.length≤600) {ps:List Ps} {L:Nat→B} {last:Nat} (h:Inv a (vw ps) L last) (K:Int × List Pc→Option Z) (R:List Pc→Option Z)
  (hK:∀ (f:Nat) o,f≤b.length→o.length≤b.length→K ((f:Int),o)=R (o++dataP ((b.drop f).take (b.length - f)))):∀ (n N j f:Nat) (o:List Pc),n≤N→b.length - j < n→j≤b.length→f≤j→o.length≤f →
 loopN N (fun s nx_99 k_98 =>
  match s with
  | (from_86,at_87,o5_88) =>
   bif decide (at_87 < (b.length:Int)) then
    chk (0≤at_87∧at_87≤(b.length:Int)) <|
    call (delta_automaton_longest_i1 (List.drop at_87.toNat b) (last:Int) (ps.map cv1)) fun r_101 =>
    bif decide (r_101.2 < 8) then
     nx_99 (from_86,IntKind.i64.wrap (at_87+1),o5_88)
    else
    jp (S:=List api_Piece) (fun o5_104 =>
     chk ((o5_104++[(api_Piece.mk r_101.1 r_101.2 [])]).length≤274877906944) <|
     nx_99 (IntKind.i64.wrap (at_87+r_101.2),IntKind.i64.wrap (at_87+r_101.2),o5_104++[(api_Piece.mk r_101.1 r_101.2 [])])) fun k_105 =>
    bif decide (from_86 < at_87) then
     chk (0≤from_86∧from_86≤(b.length:Int)∧0≤at_87∧at_87≤(b.length:Int)∧from_86≤at_87) <|
     chk ((o5_88++[(api_Piece.mk 0 0 (List.take (at_87.toNat - from_86.toNat) (List.drop from_86.toNat b)))]).length≤274877906944) <|
     k_105 (o5_88++[(api_Piece.mk 0 0 (List.take (at_87.toNat - from_86.toNat) (List.drop from_86.toNat b)))])
    else
    k_105 o5_88
   else
   k_98 (from_86,at_87,o5_88)) ((f:Int),(j:Int),o) (fun s=>match s with
  | (from_86,at_87,o5_88) =>
   K (from_86,o5_88))=R (o++mkP a n (b.drop j) ((b.drop f).take (j - f))):=by
 intro n
 induction n with
 | zero=>intro N j f o _ h; omega
 | succ n ih =>
  intro N j f o hN hj hjb hf ho
  obtain ⟨N,rfl⟩:∃ N',N=N'+1:=⟨N - 1,by omega⟩
  unfold loopN
  dsimp only
  by_cases hlt:j < b.length
  rotate_left
  ·obtain rfl:j=b.length:=by omega
   rw [decide_eq_false (by omega),cond_false]
   simp only [mkP]
   rw [if_pos (List.drop_eq_nil_of_le (by omega)),hK f o hf (by omega)]
  ·rw [decide_eq_true (by omega),cond_true,chk_true (by omega)]
   simp only [Int.toNat_natCast]
   rw [longest_eq h ha (b.drop j) (by simp; omega),call_some]
   have hne:¬ b.drop j=[]:=by rw [List.drop_eq_nil_iff]; omega
   have hb':=best_ok a (b.drop j)
   rw [List.length_drop] at hb'
   simp only [mkP]
   rw [if_neg hne,← best_bst]
   generalize best a (b.drop j)=p at hb' ⊢
   obtain ⟨at_,long⟩:=p
   dsimp only at hb' ⊢
   by_cases h8:long < 8
   ·rw [decide_eq_true (by omega),cond_true,if_pos h8,wrap1 j (by omega),take_snoc b hf hlt,List.drop_drop]
    exact ih N (j+1) f o (by omega) (by omega) (by omega) (by omega) ho
   ·rw [decide_eq_false (by omega),cond_false,if_neg h8,jp_eq,wrapS (by omega) (by omega),show (j:Int)+(long:Int)=((j+long:Nat):Int) by omega,List.drop_drop,dataP_cut b hf hjb]
    have z:(b.drop (j+long)).take (j+long - (j+long))=[]:=by simp
    by_cases he:f < j
    ·rw [if_pos he,decide_eq_true (by omega),cond_true,chk_true (by omega),chk_true (by simp; omega)]
     dsimp only
     rw [chk_true (by simp; omega)]
     refine (ih N (j+long) (j+long) ((o++[⟨0,0,(b.drop f).take (j - f)⟩])++[⟨at_,long,[]⟩]) (by omega) (by omega) (by omega) (by omega) (by simp; omega)).trans ?_
     rw [z]; simp
    ·rw [if_neg he,decide_eq_false (by omega),cond_false]
     dsimp only
     rw [chk_true (by simp; omega)]
     refine (ih N (j+long) (j+long) (o++[⟨at_,long,[]⟩]) (by omega) (by omega) (by omega) (by omega) (by simp; omega)).trans ?_
     rw [z]; simp
theorem Make_eq (a b:Str) (ha:a.length≤600) (hb:b.length≤600):delta_Make a b=some (⟨(a.length:Int),(b.length:Int),sumS a,sumS b,piecesOf a b⟩,0):=by
 unfold delta_Make
 rw [bif_f (by rw [decide_eq_false (by omega),decide_eq_false (by omega)]; rfl),disk_SumOf_eq,call_some,disk_SumOf_eq,call_some]
 obtain ⟨ps,L,last,e,h,_⟩:=newAutomaton_eq a ha
 rw [e,call_some]
 obtain ⟨N,hN⟩:∃ N,Fuel=N:=⟨_,rfl⟩
 have hN2:1099511627776≤N:=hN ▸ fuel_ge
 rw [hN]
 clear hN
 obtain ⟨h1,h2,h3,h4⟩:=mkP_ok a (b.length+1) b [] (by omega)
 rw [if_pos rfl] at h2
 have hl:(piecesOf a b).length≤600:=by unfold piecesOf; omega
 rw [jp_eq]
 dsimp only
 have:=make_loop a b ha hb h (fun s=>jp (S:=List api_Piece) (fun o5_58 =>
    bif decide (5000 < (o5_58.length:Int)) then
     some ((api_Delta.mk 0 0 [] [] []),4)
    else
    some ((api_Delta.mk (a.length:Int) (b.length:Int) (sumS a) (sumS b) o5_58),0)) fun k_59 =>
   bif decide (s.1 < (b.length:Int)) then
    chk (0≤s.1∧s.1≤(b.length:Int)) <|
    chk ((s.2++[(api_Piece.mk 0 0 (List.drop s.1.toNat b))]).length≤274877906944) <|
    k_59 (s.2++[(api_Piece.mk 0 0 (List.drop s.1.toNat b))])
   else
   k_59 s.2) (fun l=>bif decide (5000 < (l.length:Int)) then
     some ((api_Delta.mk 0 0 [] [] []),4)
    else
    some ((api_Delta.mk (a.length:Int) (b.length:Int) (sumS a) (sumS b) l),(0:Int))) (fun f o hf ho=>?_) (b.length+1) N 0 0 [] (by omega) (by omega) (by omega) (by omega) (by simp)
 ·refine this.trans ?_
  rw [List.nil_append,List.drop_zero,show List.take (0 - 0) b=[] from rfl,show mkP a (b.length+1) b []=piecesOf a b from rfl,decide_eq_false (by omega),cond_false]
 ·dsimp only
  rw [jp_eq,dataP_cut b hf (Nat.le_refl _)]
  by_cases e:f < b.length
  ·rw [decide_eq_true (by omega),cond_true,if_pos e,chk_true (by omega),chk_true (by simp; omega)]
   simp only [Int.toNat_natCast]
   rw [show List.take (b.length - f) (List.drop f b)=List.drop f b from List.take_of_length_le (by simp)]
  ·rw [decide_eq_false (by omega),cond_false,if_neg e,List.append_nil]
end
def mkD (a b:Str):api_Delta:=⟨(a.length:Int),(b.length:Int),sumS a,sumS b,piecesOf a b⟩
theorem mkD_ok {a b:Str} (ha:a.length≤600) (hb:b.length≤600):Dok (mkD a b):=Delta_dok a b ha hb
theorem mkD_made (a b:Str):made a (mkD a b).Pieces=b:=by
 obtain ⟨_,_,_,h4⟩:=mkP_ok a (b.length+1) b [] (by omega)
 exact h4
theorem and127u:∀ c:UInt8,bitsI .and .u8 (c.toNat:Int) 127=((c.toNat % 128:Nat):Int):=u8all (by decide +kernel)
theorem orI_nat (n:Nat) (c:UInt8) (i:Nat) (hi:i≤4) (h:n < 2 ^ (7 * i)):orI (n:Int) c i=((n+c.toNat % 128 * 2 ^ (7 * i):Nat):Int):=by
 have hp:2 ^ (7 * i)≤2 ^ 28:=Nat.pow_le_pow_right (by decide) (by omega)
 have hc:c.toNat % 128≤127:=by omega
 have hm:c.toNat % 128 * 2 ^ (7 * i)≤127 * 2 ^ 28:=Nat.mul_le_mul hc hp
 unfold orI
 have e00:IntKind.i64.wrap ((c.toNat % 128:Nat):Int)=((c.toNat % 128:Nat):Int):=wrapS (by omega) (by omega)
 rw [and127u,wrap7 i (by omega),e00]
 have hs:shI .i64 (7 * (i:Int))=7 * i:=by
  unfold shI
  simp only [IntKind.bits]
  omega
 rw [hs]
 have e0:((c.toNat % 128:Nat):Int) * 2 ^ (7 * i)=((c.toNat % 128 * 2 ^ (7 * i):Nat):Int):=by
  rw [Int.natCast_mul,Int.natCast_pow]; rfl
 rw [e0,wrapS (by omega) (by omega)]
 generalize hq:c.toNat % 128=q at *
 generalize hw:2 ^ (7 * i)=w at *
 show IntKind.i64.wrap (((BitVec.ofInt 64 (n:Int) ||| BitVec.ofInt 64 ((q * w:Nat):Int)).toNat:Nat):Int)=_
 rw [BitVec.toNat_or,BitVec.toNat_ofInt,BitVec.toNat_ofInt]
 have e1:((n:Int) % ((2 ^ 64:Nat):Int)).toNat=n:=by omega
 have e2:(((q * w:Nat):Int) % ((2 ^ 64:Nat):Int)).toNat=q * w:=by omega
 have e3:n ||| q * w=n+q * w:=by
  have:=Nat.two_pow_add_eq_or_of_lt (i:=7 * i) (b:=n) (by rw [hw]; exact h) q
  rw [hw] at this
  rw [Nat.or_comm,Nat.mul_comm q w,← this,Nat.add_comm]
 rw [e1,e2,e3]
 exact wrapS (by omega) (by omega)
theorem u8_of (n:Nat) (h:n < 256):(UInt8.ofNat n).toNat=n:=by simp; omega
theorem numS_last {m i n acc:Nat} {r:Str} (hm:1≤m) (hn:n < 128) (hi:i≤4) (ha:acc < 2 ^ (7 * i)) (h0:i=0 ∨ 0 < n):numS m i (acc:Int) (UInt8.ofNat n::r)=some (((acc+n * 2 ^ (7 * i):Nat):Int),r):=by
 obtain ⟨m,rfl⟩:∃ k,m=k+1:=⟨m - 1,by omega⟩
 unfold numS
 rw [u8_of n (by omega),if_pos hn,if_neg (by omega),orI_nat acc _ i hi ha,u8_of n (by omega),Nat.mod_eq_of_lt hn]
theorem numS_grp:∀ (k:Nat) {m i n acc:Nat} {r:Str},k+1≤m→n < 128 ^ (k+1)→i+k≤4→acc < 2 ^ (7 * i)→(i=0 ∨ 0 < n)→numS m i (acc:Int) (grp k n++r)=some (((acc+n * 2 ^ (7 * i):Nat):Int),r)
 | 0,m,i,n,acc,r,hm,hn,hi,ha,h0=>by
  have:n < 128:=by simpa using hn
  have e:grp 0 n=[UInt8.ofNat n]:=by simp only [grp,Nat.mod_eq_of_lt this]
  rw [e]
  exact numS_last hm this (by omega) ha h0
 | k+1,m,i,n,acc,r,hm,hn,hi,ha,h0=>by
  simp only [grp]
  by_cases h:n < 128
  ·rw [if_pos h]
   exact numS_last (by omega) h (by omega) ha h0
  ·rw [if_neg h]
   obtain ⟨m,rfl⟩:∃ k,m=k+1:=⟨m - 1,by omega⟩
   rw [List.cons_append]
   unfold numS
   have e:(UInt8.ofNat (n % 128+128)).toNat=n % 128+128:=u8_of _ (by omega)
   have e2:(n % 128+128) % 128=n % 128:=by omega
   rw [e,if_neg (by omega),orI_nat acc _ i (by omega) ha,e,e2]
   have hp:2 ^ (7 * (i+1))=128 * 2 ^ (7 * i):=by rw [show 7 * (i+1)=7+7 * i by omega,Nat.pow_add]
   have hle:n % 128 * 2 ^ (7 * i)≤127 * 2 ^ (7 * i):=Nat.mul_le_mul_right _ (by omega)
   have hd:n / 128 < 128 ^ (k+1):=by
    rw [Nat.pow_succ] at hn
    rw [Nat.div_lt_iff_lt_mul (by decide)]; exact hn
   rw [numS_grp k (by omega) hd (by omega) (by omega) (.inr (by omega)),hp]
   congr 2
   have:n=n / 128 * 128+n % 128:=by omega
   have e3:n * 2 ^ (7 * i)=n / 128 * (128 * 2 ^ (7 * i))+n % 128 * 2 ^ (7 * i):=by
    conv=>lhs; rw [this]
    rw [Nat.add_mul,Nat.mul_assoc]
   rw [e3]
   omega
theorem num_grp {n:Int} (h0:0≤n) (h1:n < 268435456) (r:Str):num (grpS n++r)=some (n,r):=by
 unfold num grpS
 have:=numS_grp 3 (m:=5) (i:=0) (n:=n.toNat) (acc:=0) (r:=r) (by omega) (by simp; omega) (by omega) (by simp) (.inl rfl)
 refine Eq.trans this ?_
 congr 2
 simp; omega
theorem cutS_app (x r:Str):cutS (x.length:Int) (x++r)=some (x,r):=by
 unfold cutS
 rw [if_pos (by simp; omega),Int.toNat_natCast,List.take_left,List.drop_left]
theorem be_snoc (x:Str) (c:UInt8):be (x++[c])=be x * 256+c.toNat:=by simp [be]
theorem be_raw8 {n:Nat} (h:n < 18446744073709551616):be (raw8 n)=n:=by
 have go:∀ j,j≤8→be ((List.range j).map fun i=>UInt8.ofNat (n / 2 ^ (56 - 8 * i) % 256))=n / 2 ^ (64 - 8 * j):=by
  intro j
  induction j with
  | zero =>
   intro _
   show 0=_
   rw [Nat.div_eq_of_lt (by simpa using h)]
  | succ j ih =>
   intro hj
   rw [List.range_succ,List.map_append,List.map_cons,List.map_nil,be_snoc,ih (by omega),u8_of _ (Nat.mod_lt _ (by decide))]
   have e:2 ^ (64 - 8 * j)=2 ^ (56 - 8 * j) * 256:=by rw [show 64 - 8 * j=(56 - 8 * j)+8 by omega,Nat.pow_add]
   rw [e,← Nat.div_div_eq_div_mul,show 64 - 8 * (j+1)=56 - 8 * j by omega]
   omega
 have:=go 8 (Nat.le_refl _)
 simpa [raw8] using this
theorem dg_hv:∀ c:UInt8,isHx c=true→dg (hv1 c)=c:=u8all (by decide +kernel)
theorem hx_hv:∀ (k:Nat) (s:Str),s.length=k→(∀ c ∈ s,isHx c=true)→hx k (hv s)=s
 | 0,s,h,_=>by rw [List.length_eq_zero_iff.1 h]; rfl
 | k+1,s,h,ha=>by
  rcases List.eq_nil_or_concat s with rfl | ⟨x,c,rfl⟩
  ·simp at h
  ·rw [List.concat_eq_append] at h ha ⊢
   have e:hv (x++[c])=hv x * 16+hv1 c:=by simp [hv]
   have hc:=ha c (by simp)
   have:=hv1_lt c hc
   unfold hx
   rw [e,show (hv x * 16+hv1 c) / 16=hv x by omega,show (hv x * 16+hv1 c) % 16=hv1 c by omega,dg_hv c hc,hx_hv k x (by simpa using h) fun c hc=>ha c (by simp [hc])]
theorem isS_iff {s:Str} (h:isS s=true):s.length=16∧∀ c ∈ s,isHx c=true:=by
 unfold isS at h
 rw [Bool.and_eq_true,List.all_eq_true,decide_eq_true_iff] at h
 exact ⟨by omega,h.1⟩
theorem hv_lt16 {s:Str} (h:isS s=true):hv s < 18446744073709551616:=by
 obtain ⟨h1,h2⟩:=isS_iff h
 have:=hv_lt s h2 16 (by omega)
 rw [List.take_of_length_le (by omega)] at this
 exact this
theorem sum8_raw {s:Str} (h:isS s=true) (r:Str):sum8 (raw8 (hv s)++r)=some (s,r):=by
 unfold sum8
 have:=cutS_app (raw8 (hv s)) r
 rw [raw8_len] at this
 rw [show (8:Int)=((8:Nat):Int) from rfl,this]
 obtain ⟨h1,h2⟩:=isS_iff h
 show some (hx 16 (be (raw8 (hv s))),r)=some (s,r)
 rw [be_raw8 (hv_lt16 h),hx_hv 16 s h1 h2]
theorem pc1_pp {p:Pc} {old:Int} (ho:old≤65536) (h:Pok old p) (hd:p.Data.length≤65536) (r:Str):pc1 (pp p++r)=some (p,r):=by
 obtain ⟨at_,long,data⟩:=p
 rcases h with ⟨h1,h2,h3⟩ | ⟨h1,h2,h3,h4⟩
 ·dsimp only at h1 h2 h3 hd
  subst h2 h3
  unfold pp
  dsimp only
  rw [if_neg h1]
  simp only [List.cons_append,List.nil_append,List.append_assoc]
  unfold pc1
  dsimp only
  rw [if_neg (by decide),if_pos rfl,num_grp (by omega) (by omega)]
  simp only [Option.bind_some,cutS_app,if_neg h1]
 ·dsimp only at h1 h2 h3 h4
  subst h1
  unfold pp
  dsimp only
  rw [if_pos rfl]
  simp only [List.cons_append,List.nil_append,List.append_assoc]
  unfold pc1
  dsimp only
  rw [if_pos rfl,num_grp (by omega) (by omega)]
  simp only [Option.bind_some]
  rw [num_grp (by omega) (by omega)]
  rfl
theorem pcs_pp {old:Int} (ho:old≤65536) (r:Str):∀ l:List Pc,(∀ p ∈ l,Pok old p∧p.Data.length≤65536)→pcs l.length (l.flatMap pp++r)=some (l,r)
 | [],_=>rfl
 | p::l,h=>by
  obtain ⟨h1,h2⟩:=h p (by simp)
  simp only [List.length_cons,List.flatMap_cons,List.append_assoc,pcs]
  rw [pc1_pp ho h1 h2,Option.bind_some,pcs_pp ho r l fun q hq=>h q (by simp [hq])]
  rfl
theorem tot_le {old:Int} (ho:old≤65536):∀ (l:List Pc) (n:Int),(∀ p ∈ l,Pok old p∧p.Data.length≤1048576)→0≤n→n+1048576 * (l.length:Int)≤4611686018427387904→(peL old l n).2=0→0≤tot l∧n+tot l≤65536
 | [],n,_,h0,_,h=>by
  unfold peL at h
  by_cases hc:65536 < n
  ·rw [decide_eq_true hc] at h; cases h
  ·simp [tot]; omega
 | p::l,n,hp,h0,h1,h=>by
  have ht:tot (p::l)=psz p+tot l:=by simp [tot]
  obtain ⟨hp1,hp2⟩:=hp p (by simp)
  have hl:((p::l).length:Int)=(l.length:Int)+1:=by simp
  rw [hl] at h1
  have hq:0≤psz p∧psz p≤1048576:=by
   unfold psz
   rcases hp1 with ⟨a,_,_⟩ | ⟨a,_,c,_⟩
   ·rw [if_neg a]; omega
   ·rw [if_pos a]; omega
  have hrec:(peL old l (n+psz p)).2=0:=by
   unfold peL at h
   rcases hp1 with ⟨a,b,c⟩ | ⟨a,b,c,d⟩
   ·rw [decide_eq_false a,b,c] at h
    simp only [Bool.not_false,cond_true,decide_true,Bool.not_true,Bool.or_self,cond_false] at h
    have e:psz p=(p.Data.length:Int):=if_neg a
    rw [wrapS (by omega) (by omega)] at h
    rw [e]; exact h
   ·have e:psz p=p.Long:=if_pos a
    rw [decide_eq_true a,decide_eq_false (show ¬ p.At < 0 by omega),decide_eq_false (show ¬ p.Long < 1 by omega),decide_eq_false (show ¬ old < p.At by omega),decide_eq_false (show ¬ old - p.At < p.Long by omega)] at h
    simp only [Bool.not_true,cond_false,Bool.or_self] at h
    rw [wrapS (by omega) (by omega)] at h
    rw [e]; exact h
  have:=tot_le ho l (n+psz p) (fun q hq=>hp q (by simp [hq])) (by omega) (by omega) hrec
  rw [ht]; omega
theorem tot_mem:∀ (l:List Pc) {old:Int},(∀ p ∈ l,Pok old p)→(∀ p ∈ l,(p.Data.length:Int)≤tot l)∧((l.flatMap pp).length:Int)≤9 * (l.length:Int)+tot l∧0≤tot l
 | [],_,_=>by simp [tot]
 | p::l,old,h=>by
  have ht:tot (p::l)=psz p+tot l:=by simp [tot]
  obtain ⟨i1,i2,i3⟩:=tot_mem l fun q hq=>h q (by simp [hq])
  have hl:((p::l).length:Int)=(l.length:Int)+1:=by simp
  have hq:0≤psz p∧(p.Data.length:Int)≤psz p∧((pp p).length:Int)≤9+psz p:=by
   have g1:=grpS_len p.At
   have g2:=grpS_len p.Long
   have g3:=grpS_len (p.Data.length:Int)
   unfold psz pp
   rcases h p (by simp) with ⟨a,_,_⟩ | ⟨a,_,c,_⟩
   ·rw [if_neg a,if_neg a]
    simp only [List.length_append,List.length_cons,List.length_nil]; omega
   ·rw [if_pos a,if_pos a,a]
    simp only [List.length_append,List.length_cons,List.length_nil]; omega
  rw [ht,hl]
  simp only [List.flatMap_cons,List.length_append,List.mem_cons]
  refine ⟨?_,by omega,by omega⟩
  rintro q (rfl | hq')
  ·omega
  ·have:=i1 q hq'; omega
theorem Dok.tot {d:api_Delta} (h:Dok d):0≤tot d.Pieces∧tot d.Pieces≤65536:=by
 obtain ⟨o1,o2,n1,n2,s1,s2,l1,hp⟩:=de_ok h.ok
 have hpe:(pe d.Pieces d.Old).2=0:=by
  have:=h.ok
  unfold de at this
  by_cases c1:((((decide (d.Old < 0)) || (decide (65536 < d.Old))) || (decide (d.New < 0))) || (decide (65536 < d.New)))=true
  ·rw [c1] at this; cases this
  ·rw [Bool.not_eq_true] at c1
   rw [c1,s1,s2] at this
   simp only [cond_false,Bool.not_true,Bool.or_self] at this
   by_cases e:(pe d.Pieces d.Old).2=0
   ·exact e
   ·rw [decide_eq_false e] at this; exact this
 unfold pe at hpe
 rw [bif_f (by rw [decide_eq_false (by omega),decide_eq_false (by omega)]; rfl),bif_f (decide_eq_false (by omega))] at hpe
 have:=tot_le o2 d.Pieces 0 (fun p hp'=>⟨hp p hp',h.sm p hp'⟩) (by omega) (by omega) hpe
 omega
theorem full_print {d:api_Delta} (h:Dok d):fullS (printS d)=some (d,bodyS d,sumS (bodyS d)):=by
 obtain ⟨o1,o2,n1,n2,s1,s2,l1,hp⟩:=de_ok h.ok
 obtain ⟨t1,t2⟩:=h.tot
 obtain ⟨m1,m2,m3⟩:=tot_mem d.Pieces hp
 have e:printS d=[79,70,68,49]++(grpS d.Old++(grpS d.New++(raw8 (hv d.OldSum)++(raw8 (hv d.NewSum)++(grpS (d.Pieces.length:Int)++(d.Pieces.flatMap pp++(raw8 (hv (sumS (bodyS d)))++[]))))))):=by
  unfold printS bodyS headS
  simp only [List.append_assoc,List.append_nil]
 have eb:(printS d).take ((printS d).length - (raw8 (hv (sumS (bodyS d)))++[]).length)=bodyS d:=by
  unfold printS
  rw [List.append_nil,List.length_append,Nat.add_sub_cancel,List.take_left]
 unfold fullS
 rw [e]
 have c4:=cutS_app [79,70,68,49] (grpS d.Old++(grpS d.New++(raw8 (hv d.OldSum)++(raw8 (hv d.NewSum)++(grpS (d.Pieces.length:Int)++(d.Pieces.flatMap pp++(raw8 (hv (sumS (bodyS d)))++[])))))))
 rw [show ((([79,70,68,49]:Str).length:Nat):Int)=4 from rfl] at c4
 rw [c4,Option.bind_some]
 dsimp only
 rw [if_pos rfl,num_grp o1 (by omega),Option.bind_some,num_grp n1 (by omega),Option.bind_some,sum8_raw s1,Option.bind_some,sum8_raw s2,Option.bind_some,num_grp (by omega) (by omega),Option.bind_some]
 dsimp only
 rw [Int.toNat_natCast,pcs_pp o2 _ d.Pieces (fun p hp'=>⟨hp p hp',by have:=m1 p hp'; omega⟩),Option.bind_some,sum8_raw (isS_sumS _),Option.bind_some]
 dsimp only
 rw [if_pos rfl,← e,eb]
def hN (n:Nat) (c:UInt8):Nat:=((n ^^^ c.toNat) * 1099511628211) % 18446744073709551616
theorem hN_lt (n:Nat) (c:UInt8):hN n c < 18446744073709551616:=Nat.mod_lt _ (by decide)
theorem hashI_nat (n:Nat) (h:n < 18446744073709551616) (c:UInt8):hashI (n:Int) c=((hN n c:Nat):Int):=by
 have hc:c.toNat < 256:=c.toNat_lt
 have h1:bitsI .xor .u64 (n:Int) (IntKind.u64.wrap (c.toNat:Int))=((n ^^^ c.toNat:Nat):Int):=by
  rw [wrapU _ (by omega)]
  show IntKind.u64.wrap (((BitVec.ofInt 64 (n:Int) ^^^ BitVec.ofInt 64 (c.toNat:Int)).toNat:Nat):Int)=_
  rw [BitVec.toNat_xor,BitVec.toNat_ofInt,BitVec.toNat_ofInt]
  have e1:((n:Int) % ((2 ^ 64:Nat):Int)).toNat=n:=by omega
  have e2:((c.toNat:Int) % ((2 ^ 64:Nat):Int)).toNat=c.toNat:=by omega
  rw [e1,e2]
  exact wrapU _ (Nat.xor_lt_two_pow (n:=64) h (by omega))
 unfold hashI hN
 rw [h1]
 generalize n ^^^ c.toNat=q
 unfold IntKind.wrap
 simp only [IntKind.bits,IntKind.signed,Bool.false_and,Bool.false_eq_true,if_false]
 omega
theorem mulP_id (a:Nat) (ha:a < 18446744073709551616):(a * 1099511628211 * 14886173955864302971) % 18446744073709551616=a:=by
 rw [Nat.mul_assoc,Nat.mul_mod,show (1099511628211 * 14886173955864302971) % 18446744073709551616=1 from by decide +kernel,Nat.mul_one,Nat.mod_mod]
 exact Nat.mod_eq_of_lt ha
theorem mulP_inj {a b:Nat} (ha:a < 18446744073709551616) (hb:b < 18446744073709551616) (h:(a * 1099511628211) % 18446744073709551616=(b * 1099511628211) % 18446744073709551616):a=b:=by
 rw [← mulP_id a ha,← mulP_id b hb,Nat.mul_mod (a * 1099511628211),h,← Nat.mul_mod]
theorem xor_lt {n:Nat} (hn:n < 18446744073709551616) (c:UInt8):n ^^^ c.toNat < 18446744073709551616 :=
 Nat.xor_lt_two_pow (n:=64) hn (by have:=c.toNat_lt; omega)
theorem hN_h {n m:Nat} {c:UInt8} (hn:n < 18446744073709551616) (hm:m < 18446744073709551616) (h:hN n c=hN m c):n=m:=by
 have:=mulP_inj (xor_lt hn c) (xor_lt hm c) h
 have e:=congrArg (· ^^^ c.toNat) this
 simpa [Nat.xor_assoc] using e
theorem hN_c {n:Nat} {c d:UInt8} (hn:n < 18446744073709551616) (h:hN n c=hN n d):c=d:=by
 have:=mulP_inj (xor_lt hn c) (xor_lt hn d) h
 have e:=congrArg (n ^^^ ·) this
 simp only [← Nat.xor_assoc,Nat.xor_self,Nat.zero_xor] at e
 exact UInt8.toNat_inj.1 e
def hF (n:Nat) (s:Str):Nat:=s.foldl hN n
theorem hF_lt:∀ (s:Str) {n:Nat},n < 18446744073709551616→hF n s < 18446744073709551616
 | [],_,h=>h
 | c::s,_,_=>hF_lt s (hN_lt _ c)
theorem hF_eq:∀ (s:Str) (n:Nat),n < 18446744073709551616→s.foldl hashI (n:Int)=((hF n s:Nat):Int)
 | [],_,_=>rfl
 | c::s,n,h=>by
  rw [List.foldl_cons,hashI_nat n h,hF_eq s _ (hN_lt _ _)]; rfl
theorem hashZ_hF (s:Str):hashZ s=((hF 14695981039346656037 s:Nat):Int):=hF_eq s _ (by decide)
theorem hF_inj:∀ (s:Str) {n m:Nat},n < 18446744073709551616→m < 18446744073709551616→hF n s=hF m s→n=m
 | [],_,_,_,_,h=>h
 | c::s,_,_,hn,hm,h=>hN_h hn hm (hF_inj s (hN_lt _ _) (hN_lt _ _) h)
theorem hF_app (n:Nat) (a b:Str):hF n (a++b)=hF (hF n a) b:=List.foldl_append
theorem hF_ne (a b:Str) {c d:UInt8} (h:c ≠ d) {n:Nat} (hn:n < 18446744073709551616):hF n (a++c::b) ≠ hF n (a++d::b):=fun e=>by
 rw [hF_app,hF_app] at e
 exact h (hN_c (hF_lt a hn) (hF_inj b (hN_lt _ _) (hN_lt _ _) e))
theorem dg_inj:∀ m n:Fin 16,dg m.val=dg n.val→m=n:=by decide
theorem hx_inj:∀ (k n m:Nat),n < 16 ^ k→m < 16 ^ k→hx k n=hx k m→n=m
 | 0,n,m,hn,hm,_=>by simp at hn hm; omega
 | k+1,n,m,hn,hm,h=>by
  unfold hx at h
  have hl:(hx k (n / 16)).length=(hx k (m / 16)).length:=by rw [hx_length,hx_length]
  obtain ⟨h1,h2⟩:=List.append_inj h hl
  rw [Nat.pow_succ] at hn hm
  have:=hx_inj k _ _ (by omega) (by omega) h1
  have e:=dg_inj ⟨n % 16,Nat.mod_lt _ (by decide)⟩ ⟨m % 16,Nat.mod_lt _ (by decide)⟩ (List.cons.inj h2).1
  have e':n % 16=m % 16:=congrArg Fin.val e
  omega
theorem sum_ne (a b:Str) {c d:UInt8} (h:c ≠ d):sumS (a++c::b) ≠ sumS (a++d::b):=fun e=>by
 unfold sumS at e
 rw [hashZ_hF,hashZ_hF] at e
 simp only [Int.toNat_natCast] at e
 have k:∀ s,hF 14695981039346656037 s < 16 ^ 16:=fun s=>hF_lt s (by decide)
 exact hF_ne a b h (by decide) (hx_inj 16 _ _ (k _) (k _) e)
theorem numS_suf:∀ {k i:Nat} {n m:Int} {s r:Str},numS k i n s=some (m,r)→r <:+ s
 | 0,_,_,_,_,_,h=>by cases h
 | k+1,i,n,m,[],r,h=>by cases h
 | k+1,i,n,m,c::s,r,h=>by
  simp only [numS] at h
  split at h
  ·split at h
   ·cases h
   ·cases h; exact List.suffix_cons _ _
  ·exact (numS_suf h).trans (List.suffix_cons _ _)
theorem num_suf {m:Int} {s r:Str} (h:num s=some (m,r)):r <:+ s:=numS_suf h
theorem cutS_suf {n:Int} {s b r:Str} (h:cutS n s=some (b,r)):r <:+ s:=⟨b,(cutS_len h).2.2.symm⟩
theorem sum8_suf {s b r:Str} (h:sum8 s=some (b,r)):r <:+ s∧(r=[]→s.length=8∧b=hx 16 (be s)):=by
 unfold sum8 at h
 cases e:cutS 8 s with
 | none=>rw [e] at h; cases h
 | some x =>
  obtain ⟨x,y⟩:=x
  rw [e] at h
  cases h
  have hl:=cutS_len e
  refine ⟨cutS_suf e,fun hr=>?_⟩
  obtain ⟨h1,h2,h3⟩:=hl
  subst hr
  rw [List.append_nil] at h3
  subst h3
  exact ⟨by omega,rfl⟩
theorem pc1_suf {s r:Str} {p:Pc} (h:pc1 s=some (p,r)):r <:+ s:=by
 cases s with
 | nil=>cases h
 | cons c s =>
  simp only [pc1] at h
  split at h
  ·obtain ⟨a,ha,h⟩:=Option.bind_eq_some_iff.1 h
   obtain ⟨l,hl,h⟩:=Option.bind_eq_some_iff.1 h
   cases h
   exact ((num_suf (m:=l.1) hl).trans (num_suf (m:=a.1) ha)).trans (List.suffix_cons _ _)
  ·split at h
   ·obtain ⟨a,ha,h⟩:=Option.bind_eq_some_iff.1 h
    obtain ⟨x,hx,h⟩:=Option.bind_eq_some_iff.1 h
    split at h
    ·cases h
    ·cases h
     exact ((cutS_suf (b:=x.1) hx).trans (num_suf (m:=a.1) ha)).trans (List.suffix_cons _ _)
   ·cases h
theorem pcs_suf:∀ {k:Nat} {s r:Str} {l:List Pc},pcs k s=some (l,r)→r <:+ s
 | 0,s,r,l,h=>by cases h; exact List.suffix_refl _
 | k+1,s,r,l,h=>by
  simp only [pcs] at h
  obtain ⟨p,hp,h⟩:=Option.bind_eq_some_iff.1 h
  obtain ⟨q,hq,h⟩:=Option.bind_eq_some_iff.1 h
  cases h
  exact (pcs_suf (l:=q.1) hq).trans (pc1_suf (p:=p.1) hp)
theorem full_some {s body sm:Str} {d:api_Delta} (h:fullS s=some (d,body,sm)):∃ t,s=body++t∧t.length=8∧sm=hx 16 (be t):=by
 unfold fullS at h
 obtain ⟨x,hx,h⟩:=Option.bind_eq_some_iff.1 h
 split at h
 rotate_left
 ·cases h
 obtain ⟨a,ha,h⟩:=Option.bind_eq_some_iff.1 h
 obtain ⟨b,hb,h⟩:=Option.bind_eq_some_iff.1 h
 obtain ⟨c,hc,h⟩:=Option.bind_eq_some_iff.1 h
 obtain ⟨e,he,h⟩:=Option.bind_eq_some_iff.1 h
 obtain ⟨k,hk,h⟩:=Option.bind_eq_some_iff.1 h
 obtain ⟨l,hl,h⟩:=Option.bind_eq_some_iff.1 h
 obtain ⟨m,hm,h⟩:=Option.bind_eq_some_iff.1 h
 split at h
 rotate_left
 ·cases h
 rename_i hmag hm0
 cases h
 obtain ⟨s1,s2⟩:=sum8_suf (b:=m.1) (r:=m.2) hm
 obtain ⟨s3,s4⟩:=s2 hm0
 have hs:l.2 <:+ s:=((pcs_suf (l:=l.1) hl).trans ((num_suf (m:=k.1) hk).trans ((sum8_suf (b:=e.1) he).1.trans ((sum8_suf (b:=c.1) hc).1.trans ((num_suf (m:=b.1) hb).trans ((num_suf (m:=a.1) ha).trans (cutS_suf (b:=x.1) hx)))))))
 obtain ⟨u,hu⟩:=hs
 refine ⟨l.2,?_,s3,s4⟩
 rw [← hu,List.length_append,Nat.add_sub_cancel,List.take_left]
theorem be_inj:∀ (n:Nat) (x y:Str),x.length=n→y.length=n→be x=be y→x=y
 | 0,x,y,hx,hy,_=>by rw [List.length_eq_zero_iff.1 hx,List.length_eq_zero_iff.1 hy]
 | n+1,x,y,hx,hy,h=>by
  rcases List.eq_nil_or_concat x with rfl | ⟨x,c,rfl⟩
  ·simp at hx
  ·rcases List.eq_nil_or_concat y with rfl | ⟨y,d,rfl⟩
   ·simp at hy
   ·rw [List.concat_eq_append] at hx ⊢
    rw [List.concat_eq_append] at hy ⊢
    rw [List.concat_eq_append,List.concat_eq_append,be_snoc,be_snoc] at h
    have h1:=c.toNat_lt
    have h2:=d.toNat_lt
    rw [be_inj n x y (by simpa using hx) (by simpa using hy) (by omega),show c=d from UInt8.toNat_inj.1 (by omega)]
theorem cut_two {x y body t:Str} {c:UInt8} (h:x++c::y=body++t):(∃ z,body=x++c::z∧y=z++t) ∨ ∃ z,x=body++z∧t=z++c::y:=by
 rcases List.append_eq_append_iff.1 h with ⟨u1,h1,h2⟩ | ⟨u2,h1,h2⟩
 ·cases u1 with
  | nil=>exact .inr ⟨[],by simpa using h1.symm,by simpa using h2.symm⟩
  | cons a u1 =>
   injection h2 with h2 h3
   subst h2
   exact .inl ⟨u1,h1,h3⟩
 ·exact .inr ⟨u2,h1,h2⟩
theorem cut_ne {x y body t body' t':Str} {c e:UInt8} (h:x++c::y=body++t) (h':x++e::y=body'++t') (ht:t.length=t'.length) :
  (∃ z,body=x++c::z∧body'=x++e::z∧t=t') ∨ (body=body'∧∃ z,t=z++c::y∧t'=z++e::y):=by
 rcases cut_two h with ⟨z,h1,h2⟩ | ⟨z,h1,h2⟩ <;> rcases cut_two h' with ⟨w,k1,k2⟩ | ⟨w,k1,k2⟩
 ·obtain ⟨e1,e2⟩:=List.append_inj' (h2.symm.trans k2) ht
  subst e1
  exact .inl ⟨z,h1,k1,e2⟩
 ·have g1:=congrArg List.length h2
  have g2:=congrArg List.length k2
  simp only [List.length_append,List.length_cons] at g1 g2
  omega
 ·have g1:=congrArg List.length h2
  have g2:=congrArg List.length k2
  simp only [List.length_append,List.length_cons] at g1 g2
  omega
 ·have g1:=congrArg List.length h2
  have g2:=congrArg List.length k2
  simp only [List.length_append,List.length_cons] at g1 g2
  obtain ⟨e1,e2⟩:=List.append_inj' (h1.symm.trans k1) (by omega)
  subst e2
  exact .inr ⟨e1,z,h2,k2⟩
theorem be_64 {t:Str} (h:t.length=8):be t < 16 ^ 16:=by
 have:=be8 t (by omega)
 exact Nat.lt_of_lt_of_le this (by decide)
theorem read_ne {x y:Str} {c e:UInt8} (hne:c ≠ e) {d d':api_Delta} {body body':Str} (h:fullS (x++c::y)=some (d,body,sumS body)) (h':fullS (x++e::y)=some (d',body',sumS body')):False:=by
 obtain ⟨t,e1,e2,e3⟩:=full_some h
 obtain ⟨t',f1,f2,f3⟩:=full_some h'
 rcases cut_ne e1 f1 (e2.trans f2.symm) with ⟨z,k1,k2,k3⟩ | ⟨k1,z,k2,k3⟩
 ·subst k3
  refine sum_ne x z hne ?_
  rw [← k1,← k2,e3,f3]
 ·subst k1
  have k4:t=t':=be_inj 8 t t' e2 f2 (hx_inj 16 _ _ (be_64 e2) (be_64 f2) (e3.symm.trans f3))
  rw [k2,k3] at k4
  have:=List.append_cancel_left k4
  injection this with h1 _
  exact hne h1
theorem parse_ne {d:api_Delta} (hd:Dok d) {x y:Str} {c e:UInt8} (hne:c ≠ e) (h:printS d=x++c::y):(parseS (x++e::y)).2 ≠ 0∧(parseS (x++e::y)).1=zD:=by
 have hf:=full_print hd
 rw [h] at hf
 unfold parseS
 split
 ·exact ⟨by decide,rfl⟩
 ·cases h2:fullS (x++e::y) with
  | none=>exact ⟨by decide,rfl⟩
  | some z =>
   obtain ⟨d',body',sm⟩:=z
   dsimp only
   split
   ·exact ⟨by decide,rfl⟩
   ·rename_i hs
    have hs:sm=sumS body':=Classical.byContradiction hs
    subst hs
    exact (read_ne hne hf h2).elim
theorem bend_ok {s:Str} (hs:s ≠ []) (hl:s.length≤5300000000) (at_ by_:Int) (h0:0 < by_) (h1:by_ < 256):∃ x c e y,s=x++c::y∧c ≠ e∧Law_ChangesAreTold_1_i1 s at_ by_=some (x++e::y):=by
 have hp:0 < s.length:=List.length_pos_iff.2 hs
 unfold Law_ChangesAreTold_1_i1
 rw [chk_true (by omega),chk_true (by omega),letv_eq]
 have m2:-(s.length:Int) < Int.tmod at_ (s.length:Int)∧Int.tmod at_ (s.length:Int) < (s.length:Int) :=
  ⟨Int.neg_lt_of_neg_lt (by have:=Int.tmod_lt_of_pos (-at_) (show (0:Int) < (s.length:Int) by omega); rw [Int.neg_tmod] at this; omega),Int.tmod_lt_of_pos at_ (by omega)⟩
 generalize Int.tmod at_ (s.length:Int)=x at m2 ⊢
 rw [wrapS (n:=x+(s.length:Int)) (by omega) (by omega)]
 have m3:0≤Int.tmod (x+(s.length:Int)) (s.length:Int)∧Int.tmod (x+(s.length:Int)) (s.length:Int) < (s.length:Int) :=
  ⟨Int.tmod_nonneg _ (by omega),Int.tmod_lt_of_pos _ (by omega)⟩
 generalize Int.tmod (x+(s.length:Int)) (s.length:Int)=v at m3 ⊢
 rw [chk_true m3,chk_true m3,letv_eq]
 obtain ⟨i,rfl⟩:∃ i:Nat,v=i:=⟨v.toNat,by omega⟩
 have hi:i < s.length:=by omega
 obtain ⟨b,hb⟩:∃ b:Nat,by_=b:=⟨by_.toNat,by omega⟩
 subst hb
 rw [Int.toNat_natCast,bytesOf_getD s i hi]
 have hc:=s[i].toNat_lt
 have hx:bitsI .xor .u8 (s[i].toNat:Int) (b:Int)=((s[i].toNat ^^^ b:Nat):Int):=by
  show IntKind.u8.wrap (((BitVec.ofInt 8 (s[i].toNat:Int) ^^^ BitVec.ofInt 8 (b:Int)).toNat:Nat):Int)=_
  rw [BitVec.toNat_xor,BitVec.toNat_ofInt,BitVec.toNat_ofInt]
  have e1:((s[i].toNat:Int) % ((2 ^ 8:Nat):Int)).toNat=s[i].toNat:=by omega
  have e2:((b:Int) % ((2 ^ 8:Nat):Int)).toNat=b:=by omega
  rw [e1,e2,wrapU8]
  have:=Nat.xor_lt_two_pow (n:=8) (x:=s[i].toNat) (y:=b) (by omega) (by omega)
  omega
 rw [hx]
 have hlt:=Nat.xor_lt_two_pow (n:=8) (x:=s[i].toNat) (y:=b) (by omega) (by omega)
 refine ⟨s.take i,s[i],UInt8.ofNat (s[i].toNat ^^^ b),s.drop (i+1),?_,fun e=>?_,?_⟩
 ·rw [← List.drop_eq_getElem_cons hi,List.take_append_drop]
 ·have e2:=congrArg UInt8.toNat e
  rw [u8_of _ (by omega)] at e2
  have e3:=congrArg (s[i].toNat ^^^ ·) e2
  simp only [← Nat.xor_assoc,Nat.xor_self,Nat.zero_xor] at e3
  omega
 ·congr 1
  have:Go.Vc.strOf (List.set (bytesOf s) i ((s[i].toNat ^^^ b:Nat):Int))=s.set i (UInt8.ofNat (s[i].toNat ^^^ b)):=by
   unfold Go.Vc.strOf bytesOf
   rw [List.map_set,List.map_map,Int.toNat_natCast]
   congr 1
   have:((fun n:Int=>UInt8.ofNat n.toNat) ∘ fun c:UInt8=>(c.toNat:Int))=id:=by
    funext c; simp
   rw [this,List.map_id]
  rw [this,List.set_eq_take_append_cons_drop,if_pos hi]
theorem index_ok:∀ l:List Pc,slices_IndexFunc_api_Piece_api_Piece_i1 l=some (-1) ∨ ∃ l1 p l2,l=l1++p::l2∧p.Data ≠ []∧slices_IndexFunc_api_Piece_api_Piece_i1 l=some ((l1.length:Nat):Int):=by
 intro l
 unfold slices_IndexFunc_api_Piece_api_Piece_i1
 rw [jp_eq]
 have key:∀ (r l0:List Pc),l=l0++r→(forL r l0.length (fun i_17 p_19 (s:Unit) nx_16 k_15 =>
   call (Law_ChangesAreTold_2 p_19) fun r_20 =>
   bif r_20 then
    some (i_17:Int)
   else
   nx_16 ()) () (fun _=>some (-1)))=some (-1) ∨ ∃ l1 p l2,l=l1++p::l2∧p.Data ≠ []∧(forL r l0.length (fun i_17 p_19 (s:Unit) nx_16 k_15 =>
   call (Law_ChangesAreTold_2 p_19) fun r_20 =>
   bif r_20 then
    some (i_17:Int)
   else
   nx_16 ()) () (fun _=>some (-1)))=some ((l1.length:Nat):Int):=by
  intro r
  induction r with
  | nil=>intro l0 _; exact .inl rfl
  | cons p r ih =>
   intro l0 e
   have t:∀ p:Pc,Law_ChangesAreTold_2 p=some (!decide (p.Data=[])):=fun _=>rfl
   unfold forL
   dsimp only
   rw [t,call_some]
   by_cases hp:p.Data=[]
   ·rw [decide_eq_true hp,Bool.not_true,cond_false]
    have:=ih (l0++[p]) (by rw [e]; simp)
    rw [show (l0++[p]).length=l0.length+1 by simp] at this
    exact this
   ·rw [decide_eq_false hp,Bool.not_false,cond_true]
    exact .inr ⟨l0,p,r,e,hp,rfl⟩
 exact key l [] rfl
theorem clone_eq (l:List Pc) (hl:l.length≤5000):slices_Clone_api_Piece_api_Piece_new l=some l:=by
 unfold slices_Clone_api_Piece_api_Piece_new
 refine anyOf_intro ⟨false,fun h=>by cases h⟩ fun b hb=>?_
 cases b with
 | false=>rw [cond_false,chk_true (by simp; omega),List.nil_append]
 | true=>rw [cond_true,hb rfl]
theorem peL_cong {old:Int} {p q:Pc} (h1:p.Data=[] ↔ q.Data=[]) (h2:p.At=q.At) (h3:p.Long=q.Long) (h4:p.Data.length=q.Data.length) (l2:List Pc):∀ (l1:List Pc) (n:Int),peL old (l1++p::l2) n=peL old (l1++q::l2) n
 | [],n=>by
  simp only [List.nil_append]
  unfold peL
  rw [h2,h3,h4,show decide (p.Data=[])=decide (q.Data=[]) from decide_eq_decide.2 h1]
 | x::l1,n=>by
  simp only [List.cons_append]
  unfold peL
  simp only [peL_cong h1 h2 h3 h4 l2 l1]
theorem pe_cong {old:Int} {p q:Pc} (h1:p.Data=[] ↔ q.Data=[]) (h2:p.At=q.At) (h3:p.Long=q.Long) (h4:p.Data.length=q.Data.length) (l1 l2:List Pc):pe (l1++p::l2) old=pe (l1++q::l2) old:=by
 unfold pe
 rw [peL_cong h1 h2 h3 h4,show (l1++p::l2).length=(l1++q::l2).length by simp]
theorem patch_no {a:Str} {d:api_Delta} (h:(a.length:Int) ≠ d.Old ∨ sumS a ≠ d.OldSum ∨ sumS (made a d.Pieces) ≠ d.NewSum):patch a d=([],14):=by
 unfold patch
 by_cases h1:(a.length:Int) ≠ d.Old ∨ sumS a ≠ d.OldSum
 ·rw [if_pos h1]
 ·rw [if_neg h1,if_pos]
  rcases h with h | h | h
  ·exact absurd (.inl h) h1
  ·exact absurd (.inr h) h1
  ·exact h
theorem law_ct (a b:Str) (at_ by_:Int) (h0:0≤by_) (h1:by_ < 256):Law_ChangesAreTold a b at_ by_=some true:=by
 unfold Law_ChangesAreTold
 rw [landed_eq,call_some,Bool.not_true,cond_false,short_eq,call_some,short_eq,call_some]
 have ha:=short_len a
 have hb:=short_len b
 generalize a.take 600=a at ha ⊢
 generalize b.take 600=b at hb ⊢
 have M:delta_Make a b=some (mkD a b,0):=Make_eq a b ha hb
 have ok:=mkD_ok ha hb
 have hmade:=mkD_made a b
 have hfew:(mkD a b).Pieces.length≤600:=pieces_few a b hb
 rw [M,call_some]
 simp only [decide_true,Bool.not_true,Bool.false_or]
 by_cases hby:by_=0
 ·rw [decide_eq_true hby,cond_true]
 rw [decide_eq_false hby,cond_false]
 have hpos:0 < by_:=by omega
 rw [jp_eq]
 -- the end: Print,a byte changed,Parse
 have rest:(call (delta_Print (mkD a b)) fun r_27 =>
   bif !decide (r_27.2=0) then
    some false
   else
   call (Law_ChangesAreTold_1_i1 r_27.1 at_ by_) fun r_28 =>
   call (delta_Parse r_28) fun r_29 =>
   callG (!decide (r_29.2=0)) (Law_sameDelta r_29.1 (api_Delta.mk 0 0 [] [] [])) false fun r_30 =>
   some ((!decide (r_29.2=0)) && r_30))=some true:=by
  rw [Print_ok ok,call_some]
  simp only [decide_true,Bool.not_true,cond_false]
  obtain ⟨l1,l2⟩:=printS_len ok
  obtain ⟨x,c,e,y,e1,e2,e3⟩:=bend_ok (s:=printS (mkD a b)) (fun h=>by rw [h] at l1; simp at l1) l2 at_ by_ hpos h1
  rw [e3,call_some,delta_Parse_eq,call_some]
  obtain ⟨p1,p2⟩:=parse_ne ok e2 e1
  rw [decide_eq_false p1,p2,Bool.not_false]
  show (callG true (Law_sameDelta zD zD) false fun r_30=>some (true && r_30))=some true
  rw [same_refl]; rfl
 -- the middle: another old text,another byte of a piece
 have mid:(chk ((a++([120]:Str)).length≤274877906944) <|
  call (delta_Apply (a++([120]:Str)) (mkD a b)) fun r_14 =>
  bif ((!decide (r_14.2=14)) || (!decide (r_14.1=[]))) then
   some false
  else
  call (slices_IndexFunc_api_Piece_api_Piece_i1 (mkD a b).Pieces) fun r_15 =>
  jp (S:=Unit) (fun _ =>
   call (delta_Print (mkD a b)) fun r_27 =>
   bif !decide (r_27.2=0) then
    some false
   else
   call (Law_ChangesAreTold_1_i1 r_27.1 at_ by_) fun r_28 =>
   call (delta_Parse r_28) fun r_29 =>
   callG (!decide (r_29.2=0)) (Law_sameDelta r_29.1 (api_Delta.mk 0 0 [] [] [])) false fun r_30 =>
   some ((!decide (r_29.2=0)) && r_30)) fun k_26 =>
  bif decide (0≤r_15) then
   call (slices_Clone_api_Piece_api_Piece_new (mkD a b).Pieces) fun r_31 =>
   chk (0≤r_15∧r_15 < (r_31.length:Int)) <|
   call (Law_ChangesAreTold_1_i1 ((r_31.getD r_15.toNat (api_Piece.mk 0 0 [])).Data) at_ by_) fun r_33 =>
   chk (0≤r_15∧r_15 < (r_31.length:Int)) <|
   letv (List.set r_31 r_15.toNat (api_Piece.mk ((r_31.getD r_15.toNat (api_Piece.mk 0 0 [])).At) ((r_31.getD r_15.toNat (api_Piece.mk 0 0 [])).Long) r_33)) fun v_35 =>
   call (delta_Apply a (api_Delta.mk (mkD a b).Old (mkD a b).New (mkD a b).OldSum (mkD a b).NewSum v_35)) fun r_38 =>
   bif ((!decide (r_38.2=14)) || (!decide (r_38.1=[]))) then
    some false
   else
   k_26 ()
  else
  k_26 ())=some true:=by
  rw [chk_true (by simp; omega),Apply_eq _ ok,call_some,patch_no (.inl (by simp [mkD]; omega))]
  simp only [decide_true,Bool.not_true,Bool.or_self,cond_false]
  rcases index_ok (mkD a b).Pieces with hI | ⟨l1,p,l2,hl,hp,hI⟩
  ·rw [hI,call_some,jp_eq,decide_eq_false (by omega),cond_false]
   exact rest
  ·rw [hI,call_some,jp_eq,decide_eq_true (by omega),cond_true,clone_eq _ (by omega),call_some]
   have hlen:l1.length < (mkD a b).Pieces.length:=by rw [hl]; simp
   have hg:(mkD a b).Pieces.getD l1.length (api_Piece.mk 0 0 [])=p:=by rw [hl]; simp [List.getD_eq_getElem?_getD]
   have hpd:p.Data.length≤1048576:=ok.sm p (by rw [hl]; simp)
   obtain ⟨x,c,e,y,e1,e2,e3⟩:=bend_ok (s:=p.Data) hp (by omega) at_ by_ hpos h1
   rw [chk_true (by omega)]
   simp only [Int.toNat_natCast,hg]
   rw [e3,call_some,chk_true (by omega),letv_eq]
   have hset:List.set (mkD a b).Pieces l1.length (api_Piece.mk p.At p.Long (x++e::y))=l1++(api_Piece.mk p.At p.Long (x++e::y))::l2:=by
    rw [hl]; simp [List.set_append]
   rw [hset]
   have hlp:p.Data.length=(x++e::y).length:=by rw [e1]; simp
   have hde:de (api_Delta.mk (mkD a b).Old (mkD a b).New (mkD a b).OldSum (mkD a b).NewSum (l1++(api_Piece.mk p.At p.Long (x++e::y))::l2))=0:=by
    have:=ok.ok
    unfold de at this ⊢
    dsimp only
    rw [hl] at this
    rw [pe_cong (p:=api_Piece.mk p.At p.Long (x++e::y)) (q:=p) (by simp [hp]) rfl rfl hlp.symm]
    exact this
   have ok':Dok (api_Delta.mk (mkD a b).Old (mkD a b).New (mkD a b).OldSum (mkD a b).NewSum (l1++(api_Piece.mk p.At p.Long (x++e::y))::l2)):=by
    refine ⟨hde,fun q hq=>?_⟩
    simp only [List.mem_append,List.mem_cons] at hq
    rcases hq with hq | rfl | hq
    ·exact ok.sm q (by rw [hl]; simp [hq])
    ·show (x++e::y).length≤1048576
     omega
    ·exact ok.sm q (by rw [hl]; simp [hq])
   have hsum:sumS (made a (l1++(api_Piece.mk p.At p.Long (x++e::y))::l2)) ≠ (mkD a b).NewSum:=by
    have hn:(mkD a b).NewSum=sumS (made a (l1++p::l2)):=by rw [← hl,hmade]; rfl
    rw [hn]
    have g1:made a (l1++p::l2)=(made a l1++x)++c::(y++made a l2):=by
     simp only [made,List.flatMap_append,List.flatMap_cons,pm,if_neg hp]
     rw [e1]; simp
    have g2:made a (l1++(api_Piece.mk p.At p.Long (x++e::y))::l2)=(made a l1++x)++e::(y++made a l2):=by
     simp [made,pm]
    rw [g1,g2]
    exact sum_ne _ _ (Ne.symm e2)
   have hpn:patch a (api_Delta.mk (mkD a b).Old (mkD a b).New (mkD a b).OldSum (mkD a b).NewSum (l1++(api_Piece.mk p.At p.Long (x++e::y))::l2))=([],14):=by
    generalize hD:api_Delta.mk (mkD a b).Old (mkD a b).New (mkD a b).OldSum (mkD a b).NewSum (l1++(api_Piece.mk p.At p.Long (x++e::y))::l2)=D
    have hP:D.Pieces=l1++(api_Piece.mk p.At p.Long (x++e::y))::l2:=by rw [← hD]
    have hN:D.NewSum=(mkD a b).NewSum:=by rw [← hD]
    rw [← hP,← hN] at hsum
    exact patch_no (.inr (.inr hsum))
   rw [Apply_eq _ ok',call_some,hpn]
   simp only [decide_true,Bool.not_true,Bool.or_self,cond_false]
   exact rest
 by_cases hae:a=[]
 ·rw [decide_eq_true hae,Bool.not_true,cond_false]
  exact mid
 ·rw [decide_eq_false hae,Bool.not_false,cond_true]
  obtain ⟨x,c,e,y,e1,e2,e3⟩:=bend_ok (s:=a) hae (by omega) at_ by_ hpos h1
  have hno:sumS (x++e::y) ≠ (mkD a b).OldSum:=by
   show _ ≠ sumS a
   rw [e1]; exact sum_ne x y (Ne.symm e2)
  rw [e3,call_some,Apply_eq _ ok,call_some,patch_no (.inr (.inl hno))]
  simp only [decide_true,Bool.not_true,Bool.or_self,cond_false]
  exact mid
end Go.Md
