/- Plain lemmas on the models: the law's model answers true. -/
import Derived.Test.YtkekfenkeeiigaaDoorTdSf
set_option linter.unusedSimpArgs false
set_option linter.unusedVariables false
set_option linter.unusedSectionVars false
namespace Go.Md
open Go.Vc
section
variable {Z A S α:Type}
theorem call_some (x:A) (k:A→Option Z):call (some x) k=k x:=rfl
theorem callG_some (g:Bool) (x d:A) (k:A→Option Z):callG g (some x) d k=k (bif g then x else d):=by cases g <;> rfl
theorem callG_true (a:Option A) (d:A) (k:A→Option Z):callG true a d k=call a k:=rfl
theorem callG_false (a:Option A) (d:A) (k:A→Option Z):callG false a d k=k d:=rfl
theorem chk_true {p:Prop} [Decidable p] (h:p) (m:Option Z):chk p m=m:=if_pos h
theorem jp_eq (F:S→Option Z) (m:(S→Option Z)→Option Z):jp F m=m F:=rfl
theorem idxS_eq {s:Str} {i:Nat} (h:i < s.length) (k:Int→Option Z):idxS s i k=k (s[i].toNat:Int):=by
 unfold idxS
 simp [h]
theorem idx_eq {l:List α} {i:Nat} (h:i < l.length) (k:α→Option Z):idx l i k=k l[i]:=by
 unfold idx
 simp [h]
theorem forL_all {f:Nat→α→Unit→(Unit→Option Z)→(Unit→Option Z)→Option Z} {z:Z} (q:α→Bool) (hf:∀ i x nx k,f i x () nx k=bif q x then nx () else some z) (k:Unit→Option Z) :
  ∀ (l:List α) (i:Nat),forL l i f () k=bif l.all q then k () else some z
 | [],i=>rfl
 | x::l,i=>by
  unfold forL
  rw [hf,forL_all q hf k l (i+1),List.all_cons]
  cases q x <;> rfl
theorem forL_run {f:Nat→α→S→(S→Option Z)→(S→Option Z)→Option Z} {k:S→Option Z} (inv:Nat→List α→S→Prop) (R:Nat→List α→S→Option Z)
  (h0:∀ i s,inv i [] s→k s=R i [] s) (h1:∀ i x l s nx,inv i (x::l) s→(∀ s',inv (i+1) l s'→nx s'=R (i+1) l s')→f i x s nx k=R i (x::l) s) :
  ∀ (l:List α) (i:Nat) (s:S),inv i l s→forL l i f s k=R i l s
 | [],i,s,h=>h0 i s h
 | x::l,i,s,h=>h1 i x l s _ h fun s' hs=>forL_run inv R h0 h1 l (i+1) s' hs
theorem loopN_run {f:S→(S→Option Z)→(S→Option Z)→Option Z} {k:S→Option Z} (inv:S→Prop) (mu:S→Nat) (R:S→Option Z)
  (h:∀ s nx,inv s→(∀ s',inv s'→mu s' < mu s→nx s'=R s')→f s nx k=R s):∀ (N:Nat) (s:S),inv s→mu s < N→loopN N f s k=R s
 | 0,s,_,hm=>by omega
 | N+1,s,hi,hm=>by
  unfold loopN
  exact h s _ hi fun s' hs' hlt=>loopN_run inv mu R h N s' hs' (by omega)
theorem forC_run {f:Nat→S→(S→Option Z)→(S→Option Z)→Option Z} {k:S→Option Z} (n:Nat) (inv:Nat→S→Prop) (R:Nat→S→Option Z)
  (h0:∀ s,inv n s→k s=R n s) (h1:∀ i s nx,i < n→inv i s→(∀ s',inv (i+1) s'→nx s'=R (i+1) s')→f i s nx k=R i s) :
  ∀ (m i:Nat) (s:S),m+i=n→inv i s→forC m i f s k=R i s
 | 0,i,s,e,h=>by
  obtain rfl:i=n:=by omega
  exact h0 s h
 | m+1,i,s,e,h=>by
  unfold forC
  exact h1 i s _ (by omega) h fun s' hs=>forC_run n inv R h0 h1 m (i+1) s' (by omega) hs
theorem condN (c:Bool) (x y:Z):(bif c then x else y)=bif !c then y else x:=by cases c <;> rfl
theorem bif_t {c:Bool} (h:c=true) (x y:Z):(bif c then x else y)=x:=by rw [h]; rfl
theorem bif_f {c:Bool} (h:c=false) (x y:Z):(bif c then x else y)=y:=by rw [h]; rfl
end
theorem wrapS {n:Int} (h1:-9223372036854775808≤n) (h2:n≤9223372036854775807):IntKind.i64.wrap n=n:=wrap64 h1 h2
theorem wrapN (n:Nat) (h:n≤9223372036854775807):IntKind.i64.wrap (n:Int)=n:=wrap64 (by omega) (by omega)
theorem wrap1 (i:Nat) (h:i < 9223372036854775807):IntKind.i64.wrap ((i:Int)+1)=((i+1:Nat):Int):=by rw [wrapS (by omega) (by omega)]; rfl
theorem fuel_ge:1099511627776≤Fuel:=Nat.le_refl _
theorem wrapU (n:Nat) (h:n < 18446744073709551616):IntKind.u64.wrap (n:Int)=n:=by
 unfold IntKind.wrap
 simp only [IntKind.bits,IntKind.signed,Bool.false_and,Bool.false_eq_true,if_false]
 omega
theorem wrapU8 (n:Int):IntKind.u8.wrap n=n % 256:=by
 unfold IntKind.wrap
 simp only [IntKind.bits,IntKind.signed,Bool.false_and,Bool.false_eq_true,if_false]
 omega
theorem wrapU_range (n:Int):∃ m:Nat,IntKind.u64.wrap n=m∧m < 18446744073709551616:=by
 refine ⟨(n % 18446744073709551616).toNat,?_,by omega⟩
 unfold IntKind.wrap
 simp only [IntKind.bits,IntKind.signed,Bool.false_and,Bool.false_eq_true,if_false]
 omega
theorem shr_eq (n c:Nat) (k:IntKind) (hc:c≤k.bits):Int.fdiv (n:Int) (2 ^ (shI k (c:Int)))=((n / 2 ^ c:Nat):Int):=by
 have:shI k (c:Int)=c:=by unfold shI; simp; omega
 rw [this,Int.fdiv_eq_ediv_of_nonneg _ (Int.le_of_lt (Int.pow_pos (by decide)))]
 rw [Int.natCast_ediv,Int.natCast_pow]; rfl
theorem and_mask (n c m:Nat) (h:n < 18446744073709551616) (hm:m=2 ^ c - 1) (hc:c < 64):bitsI .and .u64 (n:Int) (m:Int)=((n % 2 ^ c:Nat):Int):=by
 subst hm
 have h1:2 ^ c≤2 ^ 63:=Nat.pow_le_pow_right (by decide) (by omega)
 show IntKind.u64.wrap (((BitVec.ofInt 64 (n:Int) &&& BitVec.ofInt 64 ((2 ^ c - 1:Nat):Int)).toNat:Nat):Int)=_
 rw [BitVec.toNat_and,BitVec.toNat_ofInt,BitVec.toNat_ofInt]
 have e1:((n:Int) % ((2 ^ 64:Nat):Int)).toNat=n:=by omega
 have e2:(((2 ^ c - 1:Nat):Int) % ((2 ^ 64:Nat):Int)).toNat=2 ^ c - 1:=by omega
 rw [e1,e2,Nat.and_two_pow_sub_one_eq_mod]
 exact wrapU _ (Nat.lt_of_le_of_lt (Nat.mod_le _ _) h)
theorem forL_fold {Z S α:Type} (g:S→α→S) (k:S→Option Z):∀ (l:List α) (i:Nat) (s:S),forL l i (fun _ c s nx _=>nx (g s c)) s k=k (l.foldl g s)
 | [],_,_=>rfl
 | x::l,i,s=>by
  unfold forL
  exact forL_fold g k l (i+1) (g s x)
theorem set_map_range {α:Type} (n i:Nat) (f:Nat→α) (v:α):((List.range n).map f).set i v=(List.range n).map (fun j=>if j=i then v else f j):=by
 apply List.ext_getElem
 ·simp
 ·intro j h1 h2
  simp only [List.getElem_set,List.getElem_map,List.getElem_range]
  by_cases h:i=j
  ·subst h; simp
  ·rw [if_neg h,if_neg (Ne.symm h)]
theorem strOf_map {α:Type} (l:List α) (f:α→UInt8):Go.Vc.strOf (l.map fun x=>((f x).toNat:Int))=l.map f:=by
 unfold Go.Vc.strOf
 simp
def HXs:Str:=[48,49,50,51,52,53,54,55,56,57,97,98,99,100,101,102]
def dg (n:Nat):UInt8:=HXs.getD n 0
def hx:Nat→Nat→Str
 | 0,_=>[]
 | k+1,n=>hx k (n / 16)++[dg (n % 16)]
def hashI (h:Int) (c:UInt8):Int:=IntKind.u64.wrap ((bitsI .xor .u64 h (IntKind.u64.wrap (c.toNat:Int))) * 1099511628211)
def hashZ (s:Str):Int:=s.foldl hashI 14695981039346656037
def sumS (s:Str):Str:=hx 16 (hashZ s).toNat
theorem hashZ_nat (s:Str):∃ n:Nat,hashZ s=n∧n < 18446744073709551616:=by
 have:∀ (s:Str) (h:Int),(∃ n:Nat,h=n∧n < 18446744073709551616)→∃ n:Nat,s.foldl hashI h=n∧n < 18446744073709551616:=by
  intro s
  induction s with
  | nil=>exact fun h hh=>hh
  | cons c s ih=>exact fun h _=>ih _ (wrapU_range _)
 exact this s _ ⟨14695981039346656037,rfl,by decide⟩
theorem hx_length:∀ (k n:Nat),(hx k n).length=k
 | 0,_=>rfl
 | k+1,n=>by simp [hx,hx_length k]
theorem sumS_length (s:Str):(sumS s).length=16:=hx_length _ _
theorem idx_hx {Z:Type} (m:Nat) (h:m < 16) (k:Int→Option Z):idxS HXs (m:Int) k=k ((dg m).toNat:Int):=by
 rw [idxS_eq (by simpa [HXs] using h)]
 simp only [dg,List.getD_eq_getElem?_getD,List.getElem?_eq_getElem (show m < HXs.length by simpa [HXs] using h),Option.getD_some]
theorem hx16 (n:Nat):(List.range 16).map (fun j=>dg (n / 2 ^ (60 - 4 * j) % 16))=hx 16 n:=by
 simp only [hx,List.range,List.range.loop,List.map_cons,List.map_nil,Nat.div_div_eq_div_mul,List.nil_append,List.cons_append]
 simp
theorem disk_SumOf_eq (s:Str):disk_SumOf s=some (sumS s):=by
 obtain ⟨n,hn,hlt⟩:=hashZ_nat s
 unfold disk_SumOf
 obtain ⟨N,hN⟩:∃ N,Fuel=N:=⟨_,rfl⟩
 have hF:1099511627776≤N:=hN ▸ fuel_ge
 rw [hN]
 show forL s 0 (fun _ c h nx _=>nx (hashI h c)) 14695981039346656037 _=_
 rw [forL_fold]
 show jp _ (fun k_27=>loopN N _ _ _)=_
 rw [show s.foldl hashI 14695981039346656037=(n:Int) from hn]
 unfold jp
 let arr:=fun i:Nat=>(List.range 16).map fun j=>if j < i then ((dg (n / 2 ^ (60 - 4 * j) % 16)).toNat:Int) else 0
 refine (loopN_run (fun s=>∃ i:Nat,s.1=(i:Int)∧i≤16∧s.2=arr i) (fun s=>16 - s.1.toNat) (fun _=>some (sumS s)) ?_ N _ ⟨0,rfl,by omega,?_⟩ (by show 16 - Int.toNat 0 < N; simp; omega)).trans rfl
 ·rintro ⟨t,o⟩ nx ⟨i,h1,hi,h2⟩ hnx
  obtain rfl:t=i:=h1
  obtain rfl:o=arr i:=h2
  simp only [List.length_replicate]
  by_cases h:i < 16
  ·rw [bif_t (decide_eq_true (by omega))]
   have e1:IntKind.i64.wrap (60 - IntKind.i64.wrap (4 * (i:Int)))=((60 - 4 * i:Nat):Int):=by
    rw [wrapS (n:=4 * (i:Int)) (by omega) (by omega),wrapS (by omega) (by omega)]; omega
   rw [e1,chk_true (by omega),shr_eq _ _ _ (by simp only [IntKind.bits]; omega)]
   rw [show (15:Int)=((15:Nat):Int) from rfl,and_mask _ 4 15 (Nat.lt_of_le_of_lt (Nat.div_le_self _ _) hlt) (by decide) (by decide)]
   show idxS HXs _ _=_
   rw [idx_hx _ (Nat.mod_lt _ (by decide)),chk_true (by simp [arr]; omega),wrap1 i (by omega)]
   refine hnx _ ⟨i+1,rfl,by omega,?_⟩ ?_
   ·show List.set (arr i) (Int.toNat (i:Int)) _=_
    rw [Int.toNat_natCast]
    show ((List.range 16).map _).set i _=(List.range 16).map _
    rw [set_map_range]
    apply List.map_congr_left
    intro j _
    by_cases hj:j=i
    ·subst hj; rw [if_pos rfl,if_pos (by omega)]
    ·rw [if_neg hj]
     by_cases hj':j < i
     ·rw [if_pos hj',if_pos (by omega)]
     ·rw [if_neg hj',if_neg (by omega)]
   ·show 16 - Int.toNat ((i+1:Nat):Int) < 16 - Int.toNat (i:Int)
    rw [Int.toNat_natCast,Int.toNat_natCast]; omega
  ·rw [bif_f (decide_eq_false (by omega))]
   obtain rfl:i=16:=by omega
   show some (Go.Vc.strOf (arr 16))=_
   have:arr 16=(List.range 16).map fun j=>((dg (n / 2 ^ (60 - 4 * j) % 16)).toNat:Int):=by
    apply List.map_congr_left
    intro j hj
    rw [if_pos (List.mem_range.1 hj)]
   rw [this,strOf_map,hx16]
   unfold sumS
   rw [hn]; rfl
 ·show List.replicate 16 (0:Int)=_
  apply List.ext_getElem
  ·simp [arr]
  ·intro j h1 h2
   rw [List.getElem_replicate]
   simp only [arr,List.getElem_map,List.getElem_range]
   rfl
theorem u8all {p:UInt8→Prop} (h:∀ n:Fin 256,p (UInt8.ofNat n.val)) (c:UInt8):p c:=by
 have:=h ⟨c.toNat,c.toNat_lt⟩
 simpa using this
def isHx (c:UInt8):Bool:=(decide (48≤(c.toNat:Int)) && decide ((c.toNat:Int)≤57)) || (decide (97≤(c.toNat:Int)) && decide ((c.toNat:Int)≤102))
def isS (s:Str):Bool:=s.all isHx && decide ((s.length:Int)=16)
def hv1 (c:UInt8):Nat:=if c.toNat≤57 then c.toNat - 48 else c.toNat - 87
def hv (s:Str):Nat:=s.foldl (fun n c=>n * 16+hv1 c) 0
theorem hv1_lt (c:UInt8) (h:isHx c=true):hv1 c < 16:=by
 revert c
 exact u8all (by decide +kernel)
theorem hv_take (s:Str) (i:Nat) (h:i < s.length):hv (s.take (i+1))=hv (s.take i) * 16+hv1 s[i]:=by
 unfold hv
 rw [List.take_succ_eq_append_getElem h,List.foldl_append]
 rfl
theorem hv_lt (s:Str) (hs:∀ c ∈ s,isHx c=true):∀ i,i≤s.length→hv (s.take i) < 16 ^ i
 | 0,_=>by simp [hv]
 | i+1,h=>by
  have ih:=hv_lt s hs i (by omega)
  have h1:=hv1_lt s[i] (hs _ (List.getElem_mem _))
  rw [hv_take s i (by omega),Nat.pow_succ]
  omega
theorem delta_isSum_eq (s:Str):delta_isSum s=some (isS s):=by
 unfold delta_isSum
 rw [jp_eq]
 refine (forL_all (z:=false) (q:=isHx) (fun i x nx k=>?_) _ s 0).trans ?_
 ·rw [condN,Bool.not_not]; rfl
 ·unfold isS
  cases s.all isHx <;> rfl
theorem bytesOf_getD (s:Str) (i:Nat) (h:i < s.length):(bytesOf s).getD i 0=((s[i]).toNat:Int):=by
 unfold bytesOf
 rw [List.getD_eq_getElem?_getD,List.getElem?_map,List.getElem?_eq_getElem h]
 rfl
theorem lowA:∀ c:UInt8,isHx c=true→(decide (48≤(c.toNat:Int)) && decide ((c.toNat:Int)≤57))=true∧IntKind.u8.wrap ((c.toNat:Int) - 48)=hv1 c ∨
  (decide (48≤(c.toNat:Int)) && decide ((c.toNat:Int)≤57))=false∧internal_strconv_lower (c.toNat:Int)=some (c.toNat:Int)∧decide (97≤(c.toNat:Int))=true∧decide ((c.toNat:Int)≤122)=true∧IntKind.u8.wrap ((IntKind.u8.wrap ((c.toNat:Int) - 97))+10)=hv1 c :=
 u8all (by decide +kernel)
theorem wrapC4:IntKind.u64.wrap ((IntKind.u64.wrap (1 * 2 ^ (shI .u64 64))) - 1)=18446744073709551615:=by decide +kernel
theorem pow16_le (i:Nat) (h:i≤15):16 ^ i≤1152921504606846976:=Nat.le_trans (Nat.pow_le_pow_right (by decide) h) (by decide)
theorem ParseUint_hex (s:Str) (h:isS s=true):strconv_ParseUint s 16 64=some (hv s:Int):=by
 unfold isS at h
 rw [Bool.and_eq_true,List.all_eq_true,decide_eq_true_eq] at h
 obtain ⟨hs,hl⟩:=h
 have hl:s.length=16:=by omega
 unfold strconv_ParseUint internal_strconv_ParseUint
 rw [bif_f (decide_eq_false (by intro e; rw [e] at hl; simp at hl)),jp_eq]
 dsimp only
 rw [bif_t (c:=decide ((2:Int)≤16) && decide ((16:Int)≤36)) rfl,jp_eq]
 dsimp only
 rw [bif_f (c:=decide ((64:Int)=0)) rfl,bif_f (c:=decide ((64:Int) < 0) || decide ((64:Int) < 64)) rfl,jp_eq]
 dsimp only
 rw [bif_f (c:=decide ((16:Int)=10)) rfl,bif_t (c:=decide ((16:Int)=16)) rfl]
 have c1:IntKind.u64.wrap 64=64:=by decide
 have c2:IntKind.u64.wrap 16=16:=by decide
 have c3:IntKind.u8.wrap 16=16:=by decide
 have c4:=wrapC4
 rw [c1,chk_true (by omega),c2,c3,c4,jp_eq]
 dsimp only
 have hdec:decide ((16:Int)=0)=false:=rfl
 rw [forC_run s.length (fun i st=>i≤s.length∧st.1=false∧st.2=((hv (s.take i):Nat):Int)) (fun _ _=>some (hv s:Int)) ?_ ?_ s.length 0 _ rfl ⟨by omega,rfl,by simp [hv]⟩]
 ·rfl
 ·rintro ⟨b,n⟩ ⟨_,h1,h2⟩
  obtain rfl:b=false:=h1
  obtain rfl:n=_:=h2
  simp only [callG_false,Bool.false_and,cond_false,List.take_length]
 ·rintro i ⟨b,n⟩ nx hi ⟨_,h1,h2⟩ hnx
  obtain rfl:b=false:=h1
  obtain rfl:n=_:=h2
  have hc:=hs s[i] (List.getElem_mem _)
  have hlt:=hv_lt s hs i (by omega)
  have hd:=hv1_lt _ hc
  replace hlt:hv (s.take i) < 1152921504606846976:=Nat.lt_of_lt_of_le hlt (pow16_le i (by omega))
  have fin:∀ d:Int,d=hv1 s[i]→(bif decide ((16:Int)≤d) then (none:Option Int) else
    bif decide ((1152921504606846976:Int)≤((hv (s.take i):Nat):Int)) then none else
    bif (decide ((IntKind.u64.wrap ((IntKind.u64.wrap (((hv (s.take i):Nat):Int) * 16))+(IntKind.u64.wrap d))) < (IntKind.u64.wrap (((hv (s.take i):Nat):Int) * 16))) || decide ((18446744073709551615:Int) < (IntKind.u64.wrap ((IntKind.u64.wrap (((hv (s.take i):Nat):Int) * 16))+(IntKind.u64.wrap d))))) then none else
    nx (false,IntKind.u64.wrap ((IntKind.u64.wrap (((hv (s.take i):Nat):Int) * 16))+(IntKind.u64.wrap d))))=some (hv s:Int):=by
   rintro d rfl
   have e1:IntKind.u64.wrap (((hv (s.take i):Nat):Int) * 16)=((hv (s.take i) * 16:Nat):Int):=by
    rw [show ((hv (s.take i):Nat):Int) * 16=((hv (s.take i) * 16:Nat):Int) by omega]
    exact wrapU _ (by omega)
   have e2:IntKind.u64.wrap (hv1 s[i]:Int)=(hv1 s[i]:Int):=wrapU _ (by omega)
   have e3:IntKind.u64.wrap (((hv (s.take i) * 16:Nat):Int)+(hv1 s[i]:Int))=((hv (s.take i) * 16+hv1 s[i]:Nat):Int):=by
    rw [show ((hv (s.take i) * 16:Nat):Int)+(hv1 s[i]:Int)=((hv (s.take i) * 16+hv1 s[i]:Nat):Int) by omega]
    exact wrapU _ (by omega)
   rw [e1,e2,e3]
   rw [bif_f (decide_eq_false (by omega)),bif_f (decide_eq_false (by omega)),bif_f (by rw [decide_eq_false (by omega),decide_eq_false (by omega)]; rfl)]
   exact hnx _ ⟨by omega,rfl,by rw [hv_take s i hi]⟩
  rw [jp_eq]
  simp only [hdec,Bool.and_false,cond_false,bytesOf_getD s i hi]
  rcases lowA _ hc with ⟨h1,h2⟩ | ⟨h1,h2,h3,h4,h5⟩
  ·rw [h1,cond_true]; exact fin _ h2
  ·rw [h1,cond_false,h2]
   simp only [call_some,callG_some,h3,h4,Bool.and_self,cond_true]
   exact fin _ h5
def grp:Nat→Nat→Str
 | 0,n=>[UInt8.ofNat (n % 128)]
 | k+1,n=>if n < 128 then [UInt8.ofNat n] else UInt8.ofNat (n % 128+128)::grp k (n / 128)
def grpS (n:Int):Str:=grp 3 n.toNat
theorem grp_len:∀ k n,(grp k n).length≤k+1
 | 0,n=>by simp [grp]
 | k+1,n=>by
  have:=grp_len k (n / 128)
  simp only [grp]
  split <;> simp
  omega
theorem grpS_len (n:Int):(grpS n).length≤4:=grp_len _ _
theorem or128:∀ m:Fin 128,bitsI .or .i64 (m.val:Int) 128=((m.val+128:Nat):Int):=by decide +kernel
theorem and_maskS (n c m:Nat) (h:n < 9223372036854775808) (hm:m=2 ^ c - 1) (hc:c < 63):bitsI .and .i64 (n:Int) (m:Int)=((n % 2 ^ c:Nat):Int):=by
 subst hm
 have h1:2 ^ c≤2 ^ 62:=Nat.pow_le_pow_right (by decide) (by omega)
 show IntKind.i64.wrap (((BitVec.ofInt 64 (n:Int) &&& BitVec.ofInt 64 ((2 ^ c - 1:Nat):Int)).toNat:Nat):Int)=_
 rw [BitVec.toNat_and,BitVec.toNat_ofInt,BitVec.toNat_ofInt]
 have e1:((n:Int) % ((2 ^ 64:Nat):Int)).toNat=n:=by omega
 have e2:(((2 ^ c - 1:Nat):Int) % ((2 ^ 64:Nat):Int)).toNat=2 ^ c - 1:=by omega
 rw [e1,e2,Nat.and_two_pow_sub_one_eq_mod]
 have:=Nat.mod_le n (2 ^ c)
 exact wrapN _ (by omega)
theorem and127 (n:Nat) (h:n < 9223372036854775808):bitsI .and .i64 (n:Int) 127=((n % 128:Nat):Int):=and_maskS n 7 127 h rfl (by decide)
theorem shr7 (n:Nat):Int.fdiv (n:Int) (2 ^ (shI .i64 7))=((n / 128:Nat):Int):=shr_eq n 7 .i64 (by decide)
theorem u8ofNat (n:Nat) (h:n < 256):((UInt8.ofNat n).toNat:Int)=n:=by
 simp; omega
theorem bytesOf_app (a b:Str):bytesOf (a++b)=bytesOf a++bytesOf b:=List.map_append
theorem putNumber_eq (n:Int) (o:List Int) (h0:0≤n) (h1:n < 268435456) (ho:o.length≤274877906000):delta_putNumber_i1 n o=some (o++bytesOf (grpS n)):=by
 unfold delta_putNumber_i1
 obtain ⟨N,hN⟩:∃ N,Fuel=N:=⟨_,rfl⟩
 have hF:1099511627776≤N:=hN ▸ fuel_ge
 rw [hN,jp_eq]
 refine loopN_run (fun s=>∃ m k:Nat,s.1=(m:Int)∧k≤3∧m < 128 ^ (k+1)∧s.2.length+k≤274877906003∧o++bytesOf (grpS n)=s.2++bytesOf (grp k m)) (fun s=>s.1.toNat) (fun _=>some (o++bytesOf (grpS n))) ?_ N _ ⟨n.toNat,3,by simp; omega,by omega,by omega,by simp; omega,rfl⟩ (by show n.toNat < N; omega)
 rintro ⟨v,q⟩ nx ⟨m,k,hm,hk,hlt,hl,he⟩ hnx
 obtain rfl:v=m:=hm
 simp only
 simp only at hl he
 have hb:m < 268435456:=Nat.lt_of_lt_of_le hlt (Nat.le_trans (Nat.pow_le_pow_right (by decide) (show k+1≤4 by omega)) (by decide))
 by_cases h:128≤m
 ·obtain ⟨k',rfl⟩:∃ k',k=k'+1:=by
   rcases k with _ | k'
   ·simp at hlt; omega
   ·exact ⟨k',rfl⟩
  rw [bif_t (decide_eq_true (by omega)),and127 m (by omega)]
  have e:=or128 ⟨m % 128,Nat.mod_lt _ (by decide)⟩
  simp only at e
  rw [e,wrapU8,shr7 m,chk_true (by simp; omega)]
  refine hnx _ ⟨m / 128,k',rfl,by omega,?_,by simp; omega,?_⟩ (by show Int.toNat _ < Int.toNat _; rw [Int.toNat_natCast,Int.toNat_natCast]; omega)
  ·rw [Nat.pow_succ] at hlt; omega
  ·rw [he]
   simp only [grp]
   rw [if_neg (by omega),List.append_assoc]
   congr 1
 ·rw [bif_f (decide_eq_false (by omega)),wrapU8,chk_true (by simp; omega),he]
  congr 2
  have e:grp k m=[UInt8.ofNat m]:=by
   cases k with
   | zero=>show [_]=[_]; rw [Nat.mod_eq_of_lt (by omega)]
   | succ k=>simp only [grp]; rw [if_pos (by omega)]
  rw [e]
  show _=[((UInt8.ofNat m).toNat:Int)]
  rw [u8ofNat _ (by omega)]
  congr 1
  omega
def raw8 (n:Nat):Str:=(List.range 8).map fun i=>UInt8.ofNat (n / 2 ^ (56 - 8 * i) % 256)
theorem raw8_len (n:Nat):(raw8 n).length=8:=by simp [raw8]
theorem putSum_eq (s:Str) (o:List Int) (hs:isS s=true) (ho:o.length≤274877906000):delta_putSum_i1 s o=some (o++bytesOf (raw8 (hv s))):=by
 unfold delta_putSum_i1
 obtain ⟨N,hN⟩:∃ N,Fuel=N:=⟨_,rfl⟩
 have hF:1099511627776≤N:=hN ▸ fuel_ge
 rw [ParseUint_hex s hs,call_some,hN,jp_eq,jp_eq]
 generalize hv s=n
 refine loopN_run (fun st=>∃ j:Nat,j≤8∧st.1=56 - 8 * (j:Int)∧st.2=o++bytesOf ((raw8 n).take j)) (fun st=>(st.1+8).toNat) (fun _=>some (o++bytesOf (raw8 n))) ?_ N _ ⟨0,by omega,rfl,by simp [bytesOf]⟩ (by show Int.toNat _ < N; simp; omega)
 rintro ⟨v,q⟩ nx ⟨j,hj,hv,hq⟩ hnx
 obtain rfl:v=56 - 8 * (j:Int):=hv
 obtain rfl:q=_:=hq
 simp only
 by_cases h:j < 8
 ·rw [bif_t (decide_eq_true (by omega)),chk_true (by omega)]
  have e1:(56 - 8 * (j:Int))=((56 - 8 * j:Nat):Int):=by omega
  have hlen:(bytesOf ((raw8 n).take j)).length≤8:=by rw [bytesOf_length,List.length_take,raw8_len]; omega
  rw [chk_true (by simp only [List.length_append,List.length_cons,List.length_nil]; omega),e1,shr_eq n _ .u64 (by simp only [IntKind.bits]; omega),wrapU8,wrapS (by omega) (by omega)]
  refine hnx _ ⟨j+1,by omega,by simp only; omega,?_⟩ (by show Int.toNat _ < Int.toNat _; omega)
  simp only
  rw [List.append_assoc,List.take_succ_eq_append_getElem (by rw [raw8_len]; exact h),bytesOf_app]
  congr 2
  show _=[(((raw8 n)[j]'(by rw [raw8_len]; exact h)).toNat:Int)]
  simp only [raw8,List.getElem_map,List.getElem_range]
  rw [u8ofNat _ (Nat.mod_lt _ (by decide))]
  congr 1
 ·rw [bif_f (decide_eq_false (by omega))]
  obtain rfl:j=8:=by omega
  rw [List.take_of_length_le (by rw [raw8_len]; omega)]
theorem dg_hx:∀ m:Fin 16,isHx (dg m.val)=true:=by decide +kernel
theorem hx_all:∀ k n,∀ c ∈ hx k n,isHx c=true
 | 0,_,c,h=>by cases h
 | k+1,n,c,h=>by
  rcases List.mem_append.1 h with h | h
  ·exact hx_all k _ c h
  ·obtain rfl:=List.mem_singleton.1 h
   exact dg_hx ⟨n % 16,Nat.mod_lt _ (by decide)⟩
theorem isS_sumS (s:Str):isS (sumS s)=true:=by
 unfold isS
 rw [Bool.and_eq_true,List.all_eq_true,decide_eq_true_eq,sumS_length]
 exact ⟨hx_all _ _,rfl⟩
theorem strOf_bytes (s:Str):Go.Vc.strOf (bytesOf s)=s:=strOf_bytesOf s
abbrev Pc:=api_Piece
def peL (old:Int):List Pc→Int→Int × Int
 | [],n=>bif decide (65536 < n) then (0,4) else (n,0)
 | p::l,n=>bif !decide (p.Data=[]) then
   (bif ((!decide (p.At=0)) || (!decide (p.Long=0))) then (0,2) else peL old l (IntKind.i64.wrap (n+(p.Data.length:Int))))
  else
   bif ((((decide (p.At < 0)) || (decide (p.Long < 1))) || (decide (old < p.At))) || (decide (old - p.At < p.Long))) then (0,3) else peL old l (IntKind.i64.wrap (n+p.Long))
def pe (l:List Pc) (old:Int):Int × Int :=
 bif ((decide (old < 0)) || (decide (65536 < old))) then (0,3) else bif decide (5000 < (l.length:Int)) then (0,4) else peL old l 0
theorem CheckSteps_eq (l:List Pc) (old:Int):delta_CheckSteps l old=some (pe l old):=by
 unfold delta_CheckSteps pe delta_outside
 rw [call_some]
 cases h0:((decide (old < 0)) || (decide (65536 < old)))
 rotate_left
 ·rfl
 simp only [Bool.or_eq_false_iff,decide_eq_false_iff_not] at h0
 simp only [cond_false]
 cases decide (5000 < (l.length:Int))
 rotate_left
 ·rfl
 simp only [cond_false,jp_eq]
 refine forL_run (fun _ _ _=>True) (fun _ l n=>some (peL old l n)) ?_ ?_ l 0 0 trivial
 ·intro i n _; unfold peL; cases decide (65536 < n) <;> rfl
 ·intro i p l n nx _ hnx
  have ih:=fun n=>hnx n trivial
  unfold peL
  cases decide (p.Data=[])
  ·simp only [Bool.not_false,cond_true]
   cases ((!decide (p.At=0)) || (!decide (p.Long=0)))
   ·exact ih _
   ·rfl
  ·simp only [Bool.not_true,cond_false]
   have e:((((decide (p.At < 0)) || (decide (p.Long < 1))) || (decide (old < p.Long))) || (decide ((IntKind.i64.wrap (old - p.Long)) < p.At)))=((((decide (p.At < 0)) || (decide (p.Long < 1))) || (decide (old < p.At))) || (decide (old - p.At < p.Long))):=by
    by_cases h1:p.At < 0
    ·simp [h1]
    by_cases h2:p.Long < 1
    ·simp [h2]
    by_cases h:old < p.Long
    ·have:old < p.At ∨ old - p.At < p.Long:=by omega
     rcases this with h' | h' <;> simp [h,h']
    ·rw [wrapS (by omega) (by omega)]
     have:(old - p.Long < p.At) ↔ (old < p.At ∨ old - p.At < p.Long):=by omega
     rw [decide_eq_false h1,decide_eq_false h2,decide_eq_false h]
     simp only [Bool.or_false,Bool.false_or]
     rw [← Bool.decide_or]
     exact decide_eq_decide.2 this
   rw [e]
   cases ((((decide (p.At < 0)) || (decide (p.Long < 1))) || (decide (old < p.At))) || (decide (old - p.At < p.Long)))
   ·exact ih _
   ·rfl
def Pok (old:Int) (p:Pc):Prop:=(p.Data ≠ []∧p.At=0∧p.Long=0) ∨ (p.Data=[]∧0≤p.At∧1≤p.Long∧p.At+p.Long≤old)
theorem peL_ok (old:Int):∀ (l:List Pc) (n:Int),(peL old l n).2=0→∀ p ∈ l,Pok old p
 | [],_,_,_,hp=>by cases hp
 | q::l,n,h,p,hp=>by
  unfold peL at h
  by_cases hd:q.Data=[]
  ·rw [decide_eq_true hd] at h
   simp only [Bool.not_true,cond_false] at h
   cases hc:((((decide (q.At < 0)) || (decide (q.Long < 1))) || (decide (old < q.At))) || (decide (old - q.At < q.Long))) <;> rw [hc] at h
   ·simp only [Bool.or_eq_false_iff,decide_eq_false_iff_not] at hc
    rcases List.mem_cons.1 hp with rfl | hp
    ·exact .inr ⟨hd,by omega,by omega,by omega⟩
    ·exact peL_ok old l _ h p hp
   ·simp at h
  ·rw [decide_eq_false hd] at h
   simp only [Bool.not_false,cond_true] at h
   cases hc:((!decide (q.At=0)) || (!decide (q.Long=0))) <;> rw [hc] at h
   ·simp only [Bool.or_eq_false_iff,Bool.not_eq_false',decide_eq_true_eq] at hc
    rcases List.mem_cons.1 hp with rfl | hp
    ·exact .inl ⟨hd,hc.1,hc.2⟩
    ·exact peL_ok old l _ h p hp
   ·simp at h
theorem pe_ok {l:List Pc} {old:Int} (h:(pe l old).2=0):0≤old∧old≤65536∧l.length≤5000∧∀ p ∈ l,Pok old p:=by
 unfold pe at h
 cases h0:((decide (old < 0)) || (decide (65536 < old))) <;> rw [h0] at h
 rotate_left
 ·simp at h
 simp only [cond_false] at h
 cases h1:decide (5000 < (l.length:Int)) <;> rw [h1] at h
 rotate_left
 ·simp at h
 simp only [Bool.or_eq_false_iff,decide_eq_false_iff_not] at h0 h1
 exact ⟨by omega,by omega,by omega,peL_ok old l 0 h⟩
def de (d:api_Delta):Int :=
 bif ((((decide (d.Old < 0)) || (decide (65536 < d.Old))) || (decide (d.New < 0))) || (decide (65536 < d.New))) then 3
 else bif !(isS d.OldSum && isS d.NewSum) then 2
 else bif decide ((pe d.Pieces d.Old).2=0) then (bif decide ((pe d.Pieces d.Old).1=d.New) then 0 else 11) else (pe d.Pieces d.Old).2
theorem Check_eq (d:api_Delta):delta_Check d=some (de d):=by
 unfold delta_Check de delta_outside
 simp only [call_some,callG_some,delta_isSum_eq,CheckSteps_eq]
 cases ((decide (d.Old < 0)) || (decide (65536 < d.Old)))
 ·simp only [Bool.not_false,cond_true,Bool.false_or]
  cases ((decide (d.New < 0)) || (decide (65536 < d.New)))
  ·simp only [cond_false]
   cases isS d.OldSum <;> simp only [Bool.not_false,Bool.not_true,cond_false,cond_true,Bool.true_or,Bool.false_or,Bool.false_and,Bool.true_and]
   cases isS d.NewSum <;> simp only [Bool.not_false,Bool.not_true,cond_false,cond_true]
   by_cases h:(pe d.Pieces d.Old).2=0
   ·rw [decide_eq_true h]
    simp only [cond_true,Bool.true_and]
    cases decide ((pe d.Pieces d.Old).1=d.New) <;> simp [h]
   ·rw [decide_eq_false h]; rfl
  ·rfl
 ·rfl
theorem de_ok {d:api_Delta} (h:de d=0):0≤d.Old∧d.Old≤65536∧0≤d.New∧d.New≤65536∧isS d.OldSum=true∧isS d.NewSum=true∧d.Pieces.length≤5000∧∀ p ∈ d.Pieces,Pok d.Old p:=by
 unfold de at h
 cases h0:((((decide (d.Old < 0)) || (decide (65536 < d.Old))) || (decide (d.New < 0))) || (decide (65536 < d.New))) <;> rw [h0] at h
 rotate_left
 ·simp at h
 simp only [cond_false] at h
 cases h1:(isS d.OldSum && isS d.NewSum) <;> rw [h1] at h
 ·simp at h
 simp only [Bool.not_true,cond_false] at h
 cases h2:decide ((pe d.Pieces d.Old).2=0) <;> rw [h2] at h
 ·simp only [cond_false] at h
  simp only [decide_eq_false_iff_not] at h2
  exact absurd h h2
 ·simp only [Bool.or_eq_false_iff,decide_eq_false_iff_not] at h0
  obtain ⟨_,_,h3,h4⟩:=pe_ok (of_decide_eq_true h2)
  rw [Bool.and_eq_true] at h1
  exact ⟨by omega,by omega,by omega,by omega,h1.1,h1.2,h3,h4⟩
theorem wr_eq (o s:Str) (h:o.length+s.length≤274877906944):strings_Builder_WriteString_i1 s o=some ((s.length:Int),o++s):=by
 unfold strings_Builder_WriteString_i1 strings_Builder_copyCheck_np
 rw [call_some,chk_true (by simp; omega)]
theorem bs_eq (o:Str):strings_Builder_String_i1 o=some o:=rfl
def pm (a:Str) (p:Pc):Str:=if p.Data=[] then (a.drop p.At.toNat).take p.Long.toNat else p.Data
def made (a:Str) (l:List Pc):Str:=l.flatMap (pm a)
theorem pm_len {a:Str} {p:Pc} (h:Pok a.length p) (hd:p.Data.length≤1048576) (ha:a.length≤65536):(pm a p).length≤1048576:=by
 unfold pm
 split
 ·simp; omega
 ·exact hd
theorem made_loop {Z:Type} {a:Str} (ha:a.length≤65536) (k:Str→Option Z) (l:List Pc) (hl:∀ p ∈ l,Pok a.length p∧p.Data.length≤1048576) (hn:l.length≤5000) :
  forL l 0 (fun i_38 p_40 o1_31 nx_37 k_36 =>
   bif !decide (p_40.Data=[]) then
    call (strings_Builder_WriteString_i1 p_40.Data o1_31) fun r_41 =>
    nx_37 r_41.2
   else
   chk (0≤p_40.At∧p_40.At≤(a.length:Int)∧0≤IntKind.i64.wrap (p_40.At+p_40.Long)∧IntKind.i64.wrap (p_40.At+p_40.Long)≤(a.length:Int)∧p_40.At≤IntKind.i64.wrap (p_40.At+p_40.Long)) <|
   call (strings_Builder_WriteString_i1 (List.take ((IntKind.i64.wrap (p_40.At+p_40.Long)).toNat - p_40.At.toNat) (List.drop p_40.At.toNat a)) o1_31) fun r_43 =>
   nx_37 r_43.2) [] k=k (made a l):=by
 refine forL_run (fun _ r o=>(∀ p ∈ r,Pok a.length p∧p.Data.length≤1048576)∧o.length+r.length * 1048576≤5242880000) (fun _ r o=>k (o++made a r)) ?_ ?_ l 0 [] ⟨hl,by simp; omega⟩
 ·intro i o _; simp [made]
 ·intro i p r o nx ⟨hr,ho⟩ hnx
  have hp:=hr p (by simp)
  have hpl:=pm_len hp.1 hp.2 ha
  simp only [List.length_cons] at ho
  have fin:∀ s:Str,s=pm a p→(call (strings_Builder_WriteString_i1 s o) fun r_41=>nx r_41.2)=k (o++made a (p::r)):=by
   rintro s rfl
   rw [wr_eq _ _ (by omega),call_some,hnx _ ⟨fun q hq=>hr q (by simp [hq]),by simp; omega⟩]
   simp [made]
  by_cases hd:p.Data=[]
  ·rw [decide_eq_true hd,Bool.not_true,cond_false]
   rcases hp.1 with h | ⟨_,h1,h2,h3⟩
   ·exact absurd hd h.1
   ·rw [wrapS (by omega) (by omega),chk_true (by omega)]
    apply fin
    unfold pm
    rw [if_pos hd]
    congr 1
    omega
  ·rw [decide_eq_false hd,Bool.not_false,cond_true]
   exact fin _ (by unfold pm; rw [if_neg hd])
def pp (p:Pc):Str:=if p.Data=[] then [0]++grpS p.At++grpS p.Long else [1]++grpS (p.Data.length:Int)++p.Data
def headS (d:api_Delta):Str:=((((([79,70,68,49]++grpS d.Old)++grpS d.New)++raw8 (hv d.OldSum))++raw8 (hv d.NewSum))++grpS (d.Pieces.length:Int))
def bodyS (d:api_Delta):Str:=headS d++d.Pieces.flatMap pp
def printS (d:api_Delta):Str:=bodyS d++raw8 (hv (sumS (bodyS d)))
theorem pp_len {p:Pc} (hd:p.Data.length≤1048576):(pp p).length≤1048600:=by
 have h1:=grpS_len p.At
 have h2:=grpS_len p.Long
 have h3:=grpS_len (p.Data.length:Int)
 unfold pp
 split <;> simp <;> omega
theorem headS_len (d:api_Delta):(headS d).length≤40:=by
 have h1:=grpS_len d.Old
 have h2:=grpS_len d.New
 have h3:=grpS_len (d.Pieces.length:Int)
 unfold headS
 simp only [List.length_append,raw8_len,List.length_cons,List.length_nil]
 omega
structure Dok (d:api_Delta):Prop where
 ok:de d=0
 sm:∀ p ∈ d.Pieces,p.Data.length≤1048576
theorem Dok.pok {d:api_Delta} (h:Dok d):∀ p ∈ d.Pieces,Pok d.Old p∧p.Data.length≤1048576:=fun p hp=>⟨(de_ok h.ok).2.2.2.2.2.2.2 p hp,h.sm p hp⟩
theorem bytesOf_len (s:Str):(bytesOf s).length=s.length:=bytesOf_length s
theorem Print_ok {d:api_Delta} (h:Dok d):delta_Print d=some (printS d,0):=by
 obtain ⟨o1,o2,n1,n2,s1,s2,l1,hp⟩:=de_ok h.ok
 unfold delta_Print
 rw [Check_eq,call_some,h.ok]
 simp only [decide_true,Bool.not_true,cond_false]
 have g1:=grpS_len d.Old
 have g2:=grpS_len d.New
 have g3:=grpS_len (d.Pieces.length:Int)
 rw [chk_true (by decide),show ([79,70,68,49]:List Int)=bytesOf [79,70,68,49] from rfl]
 rw [putNumber_eq _ _ o1 (by omega) (by rw [bytesOf_len]; decide),call_some,← bytesOf_app]
 rw [putNumber_eq _ _ n1 (by omega) (by rw [bytesOf_len]; simp; omega),call_some,← bytesOf_app]
 rw [putSum_eq _ _ s1 (by rw [bytesOf_len]; simp; omega),call_some,← bytesOf_app]
 rw [putSum_eq _ _ s2 (by rw [bytesOf_len]; simp [raw8_len]; omega),call_some,← bytesOf_app]
 rw [putNumber_eq _ _ (by omega) (by omega) (by rw [bytesOf_len]; simp [raw8_len]; omega),call_some,← bytesOf_app,jp_eq]
 have hh:=headS_len d
 refine forL_run (fun _ r o=>(∀ p ∈ r,Pok d.Old p∧p.Data.length≤1048576)∧o.length+r.length * 1048600≤5243000040∧bytesOf (bodyS d)=o++bytesOf (r.flatMap pp)) (fun _ _ _=>some (printS d,0)) ?_ ?_ d.Pieces 0 _ ⟨h.pok,?_,?_⟩
 ·rintro i o ⟨_,hl,ho⟩
  simp only [List.flatMap_nil] at ho
  obtain rfl:o=bytesOf (bodyS d):=by rw [ho]; simp [bytesOf]
  dsimp only
  rw [strOf_bytes,disk_SumOf_eq,call_some,putSum_eq _ _ (isS_sumS _) (by simp at hl; omega),call_some,← bytesOf_app,strOf_bytes]
  rfl
 ·rintro i p r o nx ⟨hr,hl,ho⟩ hnx
  have hpk:=hr p (by simp)
  simp only [List.length_cons] at hl
  have hr':∀ p ∈ r,Pok d.Old p∧p.Data.length≤1048576:=fun q hq=>hr q (by simp [hq])
  rw [List.flatMap_cons,bytesOf_app,← List.append_assoc] at ho
  have g4:=grpS_len p.At
  have g5:=grpS_len p.Long
  have g6:=grpS_len (p.Data.length:Int)
  have ppl:=pp_len hpk.2
  have fin:∀ x,x=o++bytesOf (pp p)→nx x=some (printS d,0):=by
   rintro x rfl
   exact hnx _ ⟨hr',by simp only [List.length_append,bytesOf_len]; omega,ho⟩
  by_cases hd:p.Data=[]
  ·rw [decide_eq_true hd,Bool.not_true,cond_false,chk_true (by simp; omega)]
   rcases hpk.1 with hq | ⟨_,q1,q2,q3⟩
   ·exact absurd hd hq.1
   rw [putNumber_eq _ _ q1 (by omega) (by simp; omega),call_some,putNumber_eq _ _ (by omega) (by omega) (by simp only [List.length_append,bytesOf_len,List.length_cons,List.length_nil]; omega),call_some]
   apply fin
   unfold pp
   rw [if_pos hd,bytesOf_app,bytesOf_app]
   simp only [List.append_assoc]; rfl
  ·rw [decide_eq_false hd,Bool.not_false,cond_true,chk_true (by simp; omega)]
   rw [putNumber_eq _ _ (by omega) (by omega) (by simp; omega),call_some,chk_true (by simp only [List.length_append,bytesOf_len,List.length_cons,List.length_nil]; omega)]
   apply fin
   unfold pp
   rw [if_neg hd,bytesOf_app,bytesOf_app]
   simp only [List.append_assoc]; rfl
 ·rw [bytesOf_len]
  have:((((([79,70,68,49]++grpS d.Old)++grpS d.New)++raw8 (hv d.OldSum))++raw8 (hv d.NewSum))++grpS (d.Pieces.length:Int)).length=(headS d).length:=rfl
  omega
 ·rw [← bytesOf_app]; rfl
def patch (a:Str) (d:api_Delta):Str × Int :=
 if (a.length:Int) ≠ d.Old ∨ sumS a ≠ d.OldSum then ([],14) else if sumS (made a d.Pieces) ≠ d.NewSum then ([],14) else (made a d.Pieces,0)
theorem Apply_eq (a:Str) {d:api_Delta} (h:Dok d):delta_Apply a d=some (patch a d):=by
 obtain ⟨o1,o2,n1,n2,s1,s2,l1,hp⟩:=de_ok h.ok
 unfold delta_Apply patch
 rw [Check_eq,call_some,h.ok]
 simp only [decide_true,Bool.not_true,cond_false]
 rw [disk_SumOf_eq,callG_some]
 by_cases h1:(a.length:Int)=d.Old
 ·rw [decide_eq_true h1]
  simp only [Bool.not_true,Bool.not_false,cond_true,Bool.false_or]
  by_cases h2:sumS a=d.OldSum
  ·rw [decide_eq_true h2,if_neg (by simp [h1,h2])]
   simp only [Bool.not_true,cond_false,jp_eq]
   refine (made_loop (by omega) _ _ (by rw [h1]; exact h.pok) l1).trans ?_
   simp only [bs_eq,call_some,disk_SumOf_eq]
   by_cases h3:sumS (made a d.Pieces)=d.NewSum
   ·rw [decide_eq_true h3,if_neg (by simp [h3])]; rfl
   ·rw [decide_eq_false h3,if_pos h3]; rfl
  ·rw [decide_eq_false h2,if_pos (.inr h2)]; rfl
 ·rw [decide_eq_false h1,if_pos (.inl h1)]; rfl
theorem drop_cons {s r:Str} {c:UInt8} {i:Nat} (h:s.drop i=c::r):i < s.length∧s.drop (i+1)=r:=by
 have hl:=congrArg List.length h
 simp only [List.length_drop,List.length_cons] at hl
 refine ⟨by omega,?_⟩
 rw [← List.drop_drop,h]; rfl
def lcp:Str→Str→Nat
 | x::a,y::b=>if x=y then lcp a b+1 else 0
 | _,_=>0
theorem lcp_le:∀ (a b:Str),lcp a b≤a.length∧lcp a b≤b.length∧a.take (lcp a b)=b.take (lcp a b)
 | [],b=>by simp [lcp]
 | x::a,[]=>by simp [lcp]
 | x::a,y::b=>by
  have ih:=lcp_le a b
  simp only [lcp]
  split
  ·rename_i h; subst h
   exact ⟨by simp only [List.length_cons]; omega,by simp only [List.length_cons]; omega,by rw [List.take_succ_cons,List.take_succ_cons,ih.2.2]⟩
  ·simp
def bst (b:Str):Str→Nat→Nat × Nat→Nat × Nat
 | [],_,p=>p
 | x::r,k,p=>bst b r (k+1) (if p.2 < lcp (x::r) b then (k,lcp (x::r) b) else p)
def best (a b:Str):Nat × Nat:=bst b a 0 (0,0)
theorem bst_ok {a b:Str}:∀ (r:Str) (k:Nat) (p:Nat × Nat),a.drop k=r→p.1+p.2≤a.length→p.2≤b.length→(a.drop p.1).take p.2=b.take p.2 →
  (bst b r k p).1+(bst b r k p).2≤a.length∧(bst b r k p).2≤b.length∧(a.drop (bst b r k p).1).take (bst b r k p).2=b.take (bst b r k p).2
 | [],_,_,_,h1,h2,h3=>⟨h1,h2,h3⟩
 | x::r,k,p,hr,h1,h2,h3=>by
  obtain ⟨hi,hd⟩:=drop_cons hr
  have hl:=lcp_le (x::r) b
  have hlen:=congrArg List.length hr
  simp only [List.length_drop,List.length_cons] at hlen hl
  simp only [bst]
  split
  ·exact bst_ok r (k+1) _ hd (by simp only; omega) (by simp only; omega) (by simp only; rw [hr]; exact hl.2.2)
  ·exact bst_ok r (k+1) p hd h1 h2 h3
theorem best_ok (a b:Str):(best a b).1+(best a b).2≤a.length∧(best a b).2≤b.length∧(a.drop (best a b).1).take (best a b).2=b.take (best a b).2 :=
 bst_ok a 0 (0,0) (List.drop_zero) (by simp) (by simp) (by simp)
def dataP (data:Str):List Pc:=if data=[] then [] else [⟨0,0,data⟩]
def mkP (a:Str):Nat→Str→Str→List Pc
 | 0,_,_=>[]
 | n+1,bs,data=>if bs=[] then dataP data else
  if (best a bs).2 < 8 then mkP a n (bs.drop 1) (data++bs.take 1) else
  dataP data++⟨((best a bs).1:Int),((best a bs).2:Int),[]⟩::mkP a n (bs.drop (best a bs).2) []
def piecesOf (a b:Str):List Pc:=mkP a (b.length+1) b []
def psz (p:Pc):Int:=if p.Data=[] then p.Long else (p.Data.length:Int)
def tot (l:List Pc):Int:=(l.map psz).sum
theorem peL_good {old:Int}:∀ (l:List Pc) (n:Int),(∀ p ∈ l,Pok old p)→old≤65536→0≤n→n+tot l≤65536→peL old l n=(n+tot l,0)
 | [],n,_,_,_,h=>by
  simp only [tot,List.map_nil,List.sum_nil,Int.add_zero] at h ⊢
  unfold peL
  rw [decide_eq_false (by omega)]; rfl
 | p::l,n,hp,ho,hn,h=>by
  have ht:tot (p::l)=psz p+tot l:=by simp [tot]
  have h0:∀ l:List Pc,(∀ p ∈ l,Pok old p)→0≤tot l:=by
   intro l hl
   induction l with
   | nil=>simp [tot]
   | cons q l ih =>
    have:=ih fun p hp=>hl p (by simp [hp])
    have hq:0≤psz q:=by
     unfold psz
     rcases hl q (by simp) with ⟨a,_,_⟩ | ⟨a,_,c,_⟩
     ·rw [if_neg a]; omega
     ·rw [if_pos a]; omega
    simp only [tot,List.map_cons,List.sum_cons] at this ⊢
    omega
  have h1:=h0 l fun q hq=>hp q (by simp [hq])
  rw [ht] at h ⊢
  unfold peL
  rcases hp p (by simp) with ⟨a,b,c⟩ | ⟨a,b,c,d⟩
  ·have e:psz p=(p.Data.length:Int):=if_neg a
   rw [decide_eq_false a,b,c]
   simp only [Bool.not_false,cond_true,decide_true,Bool.not_true,Bool.or_self,cond_false]
   rw [wrapS (by omega) (by omega),peL_good l _ (fun q hq=>hp q (by simp [hq])) ho (by omega) (by omega),e]
   congr 1; omega
  ·have e:psz p=p.Long:=if_pos a
   rw [decide_eq_true a,decide_eq_false (show ¬ p.At < 0 by omega),decide_eq_false (show ¬ p.Long < 1 by omega),decide_eq_false (show ¬ old < p.At by omega),decide_eq_false (show ¬ old - p.At < p.Long by omega)]
   simp only [Bool.not_true,cond_false,Bool.or_self]
   rw [wrapS (by omega) (by omega),peL_good l _ (fun q hq=>hp q (by simp [hq])) ho (by omega) (by omega),e]
   congr 1; omega
theorem mkP_ok (a:Str):∀ (n:Nat) (bs data:Str),bs.length < n→(∀ p ∈ mkP a n bs data,Pok a.length p∧p.Data.length≤data.length+bs.length) ∧
  (mkP a n bs data).length≤bs.length+(if data=[] then 0 else 1)∧tot (mkP a n bs data)=((data.length+bs.length:Nat):Int)∧made a (mkP a n bs data)=data++bs:=by
 intro n
 induction n with
 | zero=>intro bs data h; omega
 | succ n ih =>
  intro bs data h
  simp only [mkP]
  have hD:(∀ p ∈ dataP data,Pok a.length p∧p.Data.length≤data.length)∧(dataP data).length=(if data=[] then 0 else 1)∧tot (dataP data)=(data.length:Int)∧made a (dataP data)=data:=by
   unfold dataP
   split
   ·rename_i he
    subst he
    exact ⟨by simp,rfl,rfl,rfl⟩
   ·rename_i he
    refine ⟨?_,rfl,?_,?_⟩
    ·intro p hp
     rw [List.mem_singleton] at hp
     subst hp
     exact ⟨.inl ⟨he,rfl,rfl⟩,Nat.le_refl _⟩
    ·simp [tot,psz,he]
    ·simp [made,pm,he]
  by_cases hb:bs=[]
  ·subst hb
   rw [if_pos rfl]
   obtain ⟨h1,h2,h3,h4⟩:=hD
   exact ⟨fun p hp=>⟨(h1 p hp).1,by have:=(h1 p hp).2; simp; omega⟩,by rw [h2]; simp,by rw [h3]; simp,by rw [h4]; simp⟩
  ·rw [if_neg hb]
   have hl:1≤bs.length:=by
    rcases bs with _ | ⟨x,bs⟩
    ·exact absurd rfl hb
    ·simp
   split
   ·have ht:(bs.take 1).length=1:=by rw [List.length_take]; omega
    obtain ⟨h1,h2,h3,h4⟩:=ih (bs.drop 1) (data++bs.take 1) (by rw [List.length_drop]; omega)
    rw [List.length_append,List.length_drop,ht] at h1
    rw [List.length_drop] at h2
    rw [List.length_append,List.length_drop,ht] at h3
    refine ⟨fun p hp=>⟨(h1 p hp).1,by have:=(h1 p hp).2; omega⟩,?_,by rw [h3]; congr 1; omega,by rw [h4,List.append_assoc,List.take_append_drop]⟩
    refine Nat.le_trans h2 ?_
    split <;> omega
   ·rename_i h8
    obtain ⟨b1,b2,b3⟩:=best_ok a bs
    obtain ⟨h1,h2,h3,h4⟩:=ih (bs.drop (best a bs).2) [] (by rw [List.length_drop]; omega)
    rw [List.length_drop] at h1 h2 h3
    rw [if_pos rfl] at h2
    simp only [List.length_nil,Nat.zero_add] at h1 h3
    obtain ⟨d1,d2,d3,d4⟩:=hD
    refine ⟨?_,?_,?_,?_⟩
    ·intro p hp
     rcases List.mem_append.1 hp with hp | hp
     ·have:=d1 p hp; exact ⟨this.1,by omega⟩
     ·rcases List.mem_cons.1 hp with rfl | hp
      ·exact ⟨.inr ⟨rfl,by simp,by simp only; omega,by simp only; omega⟩,by simp⟩
      ·have:=h1 p hp; exact ⟨this.1,by omega⟩
    ·rw [List.length_append,List.length_cons,d2]
     split <;> omega
    ·have:tot (dataP data++⟨((best a bs).1:Int),((best a bs).2:Int),[]⟩::mkP a n (bs.drop (best a bs).2) [])=tot (dataP data)+((best a bs).2+tot (mkP a n (bs.drop (best a bs).2) [])):=by simp [tot,psz]
     rw [this,d3,h3]; omega
    ·have:made a (dataP data++⟨((best a bs).1:Int),((best a bs).2:Int),[]⟩::mkP a n (bs.drop (best a bs).2) [])=made a (dataP data)++((a.drop (best a bs).1).take (best a bs).2++made a (mkP a n (bs.drop (best a bs).2) [])):=by simp [made,pm]
     rw [this,d4,h4,b3,List.nil_append,List.take_append_drop]
theorem pieces_few (a b:Str) (hb:b.length≤600):(piecesOf a b).length≤600:=by
 obtain ⟨h1,h2,h3,h4⟩:=mkP_ok a (b.length+1) b [] (by omega)
 rw [if_pos rfl] at h2
 unfold piecesOf; omega
theorem Delta_dok (a b:Str) (ha:a.length≤600) (hb:b.length≤600):Dok ⟨(a.length:Int),(b.length:Int),sumS a,sumS b,piecesOf a b⟩:=by
 obtain ⟨h1,h2,h3,h4⟩:=mkP_ok a (b.length+1) b [] (by omega)
 rw [if_pos rfl] at h2
 simp only [List.length_nil,Nat.zero_add] at h1 h3
 have hl:=pieces_few a b hb
 have hp:pe (piecesOf a b) (a.length:Int)=((b.length:Int),0):=by
  unfold pe
  rw [bif_f (by rw [decide_eq_false (by omega),decide_eq_false (by omega)]; rfl),bif_f (decide_eq_false (by omega))]
  have ht:tot (piecesOf a b)=(b.length:Int):=h3
  show peL (a.length:Int) (mkP a (b.length+1) b []) 0=_
  rw [peL_good _ 0 (fun p hp=>(h1 p hp).1) (by omega) (by omega) (by omega),h3,Int.zero_add]
 refine ⟨?_,?_⟩
 ·unfold de
  dsimp only
  rw [hp,isS_sumS,isS_sumS,bif_f (by rw [decide_eq_false (show ¬ ((a.length:Int) < 0) by omega),decide_eq_false (show ¬ ((65536:Int) < (a.length:Int)) by omega),decide_eq_false (show ¬ ((b.length:Int) < 0) by omega),decide_eq_false (show ¬ ((65536:Int) < (b.length:Int)) by omega)]; rfl)]
  simp
 ·intro p hp
  have:=(h1 p hp).2
  omega
section
open Go.Sfa
def cvE (l:Ed):List delta_edge:=l.map fun p=>⟨(p.1.toNat:Int),(p.2:Int)⟩
def cvL:Option Nat→Int
 | none=>-1
 | some k=>(k:Int)
def cv1 (s:Ps):delta_state:=⟨(s.lg:Int),(s.fi:Int),cvL s.lk,cvE s.ed⟩
theorem u8_int {a b:UInt8}:(a.toNat:Int)=(b.toNat:Int) ↔ a=b:=⟨fun h=>UInt8.toNat_inj.1 (by omega),fun h=>by rw [h]⟩
theorem next_eq (s:Ps) (c:UInt8):delta_state_next_i1 (cv1 s) (c.toNat:Int)=some (cvL (nxE s.ed c)):=by
 unfold delta_state_next_i1
 rw [jp_eq]
 have key:∀ (l:Ed) (q:Nat),forL (cvE l) q (fun i_15 e_17 s nx_14 k_13 =>
  bif decide (e_17.c=(c.toNat:Int)) then
   some e_17.to
  else
  nx_14 ()) () (fun _=>some (-1))=some (cvL (nxE l c)):=by
  intro l
  induction l with
  | nil=>intro q; rfl
  | cons p l ih =>
   intro q
   rw [show cvE (p::l)=(⟨(p.1.toNat:Int),(p.2:Int)⟩:delta_edge)::cvE l from rfl,nxE_cons]
   unfold forL
   dsimp only
   by_cases h:p.1=c
   ·rw [decide_eq_true (u8_int.2 h),cond_true,if_pos h]; rfl
   ·rw [decide_eq_false (fun k=>h (u8_int.1 k)),cond_false,if_neg h]
    exact ih (q+1)
 exact key s.ed 0
theorem getD_cv (ps:List Ps) {p:Nat} (h:p < ps.length):(ps.map cv1).getD p (delta_state.mk 0 0 0 [])=cv1 (Sfa.st ps p):=by
 simp [List.getD_eq_getElem?_getD,Sfa.st,h]
theorem set_cv (ps:List Ps) (p:Nat) (x:Ps):List.set (ps.map cv1) p (cv1 x)=(ps.set p x).map cv1:=by rw [List.map_set]
theorem setE_step {l:Ed} {c:UInt8} {t q:Nat} (hq:q < l.length) (hne:l[q].1 ≠ c) (h:setE l c t=l.take q++setE (l.drop q) c t):setE l c t=l.take (q+1)++setE (l.drop (q+1)) c t:=by
 rw [h,List.drop_eq_getElem_cons hq]
 simp only [setE,if_neg hne]
 rw [List.take_succ_eq_append_getElem hq,List.append_assoc]
 rfl
theorem set_eq (ps:List Ps) (p:Nat) (c:UInt8) (to:Nat) (hp:p < ps.length) (hl:(Sfa.st ps p).ed.length≤1000000) :
  delta_state_set_i1 p (c.toNat:Int) (to:Int) (ps.map cv1)=some ((ps.set p { Sfa.st ps p with ed:=setE (Sfa.st ps p).ed c to }).map cv1):=by
 unfold delta_state_set_i1
 rw [chk_true (by simpa using hp),jp_eq]
 simp only [getD_cv ps hp]
 generalize hx:Sfa.st ps p=x at *
 obtain ⟨N,hN⟩:∃ N,Fuel=N:=⟨_,rfl⟩
 have hN2:1099511627776≤N:=hN ▸ fuel_ge
 rw [hN]
 clear hN
 have hel:(cv1 x).edges.length=x.ed.length:=by simp [cv1,cvE]
 refine loopN_run (S:=Int) (fun s=>∃ q:Nat,s=q∧q≤x.ed.length∧setE x.ed c to=x.ed.take q++setE (x.ed.drop q) c to) (fun s=>x.ed.length - s.toNat) (fun _=>some ((ps.set p { x with ed:=setE x.ed c to }).map cv1)) ?_ N 0 ⟨0,rfl,by omega,by simp⟩ (by first | omega | (simp only; omega))
 rintro s nx ⟨q,rfl,h1,h2⟩ hnx
 rw [hel]
 by_cases h:q < x.ed.length
 ·have hg:(cv1 x).edges.getD (q:Int).toNat (delta_edge.mk 0 0)=⟨(x.ed[q].1.toNat:Int),(x.ed[q].2:Int)⟩:=by
   simp [cv1,cvE,List.getD_eq_getElem?_getD,h]
  rw [decide_eq_true (by omega),cond_true,chk_true (by omega)]
  simp only [hg]
  by_cases e:x.ed[q].1=c
  ·rw [decide_eq_true (u8_int.2 e),cond_true,chk_true (by omega)]
   show some _=some _
   congr 1
   rw [← set_cv]
   congr 1
   rw [h2,List.drop_eq_getElem_cons h]
   have e2:setE (x.ed[q]::x.ed.drop (q+1)) c to=(c,to)::x.ed.drop (q+1):=by simp [setE,e]
   rw [e2]
   have e3:x.ed.take q++(c,to)::x.ed.drop (q+1)=x.ed.set q (c,to):=by rw [List.set_eq_take_append_cons_drop,if_pos h]
   rw [e3]
   simp [cv1,cvE,List.map_set,e]
  ·rw [decide_eq_false (fun k=>e (u8_int.1 k)),cond_false,wrap1 q (by omega)]
   exact hnx _ ⟨q+1,rfl,by omega,setE_step h e h2⟩ (by simp only [Int.toNat_natCast]; omega)
 ·obtain rfl:q=x.ed.length:=by omega
  rw [decide_eq_false (by omega),cond_false,chk_true (by simp [cv1,cvE]; omega)]
  show some _=some _
  congr 1
  rw [← set_cv]
  congr 1
  rw [h2]
  simp [cv1,cvE,setE]
end
section
open Go.Sfa
def dpt (L:Nat→B):Option Nat→Nat
 | none=>0
 | some p=>(L p).length+1
def mz (L:Nat→B) (i:Int):Nat:=if i < 0 then 0 else (L i.toNat).length+1
theorem mz_cv (L:Nat→B) (po:Option Nat):mz L (cvL po)=dpt L po:=by
 cases po with
 | none=>rfl
 | some p =>
  show mz L (p:Int)=_
  unfold mz
  rw [if_neg (by omega),Int.toNat_natCast]; rfl
section
variable {S Z α:Type}
theorem loopN_good {f:S→(S→Option Z)→(S→Option Z)→Option Z} {k:S→Option Z} (inv:S→Prop) (mu:S→Nat) (G:Option Z→Prop)
  (h:∀ s nx,inv s→(∀ s',inv s'→mu s' < mu s→G (nx s'))→G (f s nx k)):∀ (N:Nat) (s:S),inv s→mu s < N→G (loopN N f s k)
 | 0,s,_,hm=>by omega
 | N+1,s,hi,hm=>by
  unfold loopN
  exact h s _ hi fun s' hs' hlt=>loopN_good inv mu G h N s' hs' (by omega)
theorem forL_good {f:Nat→α→S→(S→Option Z)→(S→Option Z)→Option Z} {k:S→Option Z} (inv:Nat→List α→S→Prop) (G:Option Z→Prop)
  (h0:∀ i s,inv i [] s→G (k s)) (h1:∀ i x l s nx,inv i (x::l) s→(∀ s',inv (i+1) l s'→G (nx s'))→G (f i x s nx k)) :
  ∀ (l:List α) (i:Nat) (s:S),inv i l s→G (forL l i f s k)
 | [],i,s,h=>h0 i s h
 | x::l,i,s,h=>h1 i x l s _ h fun s' hs=>forL_good inv G h0 h1 l (i+1) s' hs
end
theorem cvL_nat (k:Nat):cvL (some k)=(k:Int):=rfl
theorem loop1_eq {w:B} {c:UInt8} {ps0:List Ps} {L:Nat→B} {last n:Nat} {nw:Ps} (h:Inv w (vw ps0) L last) (hn:n=ps0.length) (hnl:n≤100000) (hw:w.length≤100000) (Bn:Nat) (hBn:Bn≤500000) (hed:∀ s,(Sfa.st ps0 s).ed.length≤Bn) (hnw:nw.ed.length≤Bn)
  (N:Nat) (hN2:1099511627776≤N) {Z:Type} (K:Int × List delta_state→Option Z) (G:Option Z→Prop)
  (hK:∀ po ps,W1 w c ps0 L nw po ps→(∀ p,po=some p→(nxE (Sfa.st ps p).ed c).isSome=true)→(∀ s,(Sfa.st ps s).ed.length≤Bn+w.length+1)→G (K (cvL po,ps.map cv1))) :
 G <| loopN N (fun s nx_404 k_403 =>
  match s with
  | (p_389,o1_390) =>
   chk ((decide (0≤p_389))=true→(0≤p_389∧p_389 < (o1_390.length:Int))) <|
   callG (decide (0≤p_389)) (delta_state_next_i1 (o1_390.getD p_389.toNat (delta_state.mk 0 0 0 [])) (c.toNat:Int)) 0 fun r_406 =>
   bif ((decide (0≤p_389)) && (decide (r_406 < 0))) then
    chk (0≤p_389∧p_389 < (o1_390.length:Int)) <|
    call (delta_state_set_i1 p_389.toNat (c.toNat:Int) (n:Int) o1_390) fun r_414 =>
    chk (0≤p_389∧p_389 < (r_414.length:Int)) <|
    nx_404 ((r_414.getD p_389.toNat (delta_state.mk 0 0 0 [])).link,r_414)
   else
   k_403 (p_389,o1_390)) ((last:Int),(ps0++[nw]).map cv1) (fun s=>match s with
  | (p_389,o1_390) =>
   K (p_389,o1_390)):=by
 have hlw:L last=w:=h.last.2
 have hl0:last < ps0.length:=h.last.1
 refine loopN_good (S:=Int × List delta_state) (fun s=>∃ (po:Option Nat) (ps:List Ps),s=(cvL po,ps.map cv1)∧W1 w c ps0 L nw po ps∧∀ s,(Sfa.st ps s).ed.length+dpt L po≤Bn+w.length+1) (fun s=>mz L s.1) G ?_ N ((last:Int),(ps0++[nw]).map cv1) ⟨some last,ps0++[nw],rfl,.start h nw,fun s=>?_⟩ ?_
 ·rintro _ nx ⟨po,ps,rfl,k,hb⟩ hnx
  dsimp only at hnx ⊢
  cases po with
  | none =>
   rw [show cvL none=(-1:Int) from rfl,show decide ((0:Int)≤-1)=false from rfl,chk_true (fun h=>by cases h),callG_false,Bool.false_and,cond_false]
   exact hK none ps k (fun p e=>by cases e) fun s=>by have:=hb s; omega
  | some p =>
   obtain ⟨hp,hpw⟩:=k.at_ p rfl
   have hpl:p < ps.length:=by rw [k.len]; omega
   rw [cvL_nat,decide_eq_true (by omega),chk_true (fun _=>by simp; omega),callG_true,Int.toNat_natCast,getD_cv ps hpl,next_eq,call_some,Bool.true_and]
   cases hq:nxE (Sfa.st ps p).ed c with
   | some q =>
    rw [cvL_nat,decide_eq_false (by omega),cond_false]
    exact hK (some p) ps k (fun p' e=>by cases e; rw [hq]; rfl) fun s=>by have:=hb s; omega
   | none =>
    rw [show decide (cvL none < 0)=true from rfl,cond_true,chk_true (by simp; omega)]
    have hbp:=hb p
    rw [set_eq ps p c n hpl (by omega),call_some,chk_true (by simp; omega)]
    subst hn
    have k2:=k.next h hq
    have hst:Sfa.st (ps.set p { Sfa.st ps p with ed:=setE (Sfa.st ps p).ed c ps0.length }) p={ Sfa.st ps p with ed:=setE (Sfa.st ps p).ed c ps0.length }:=by rw [st_set ps _ hpl,if_pos rfl]
    rw [getD_cv _ (by simp; omega),hst]
    have hd:dpt L (Sfa.st ps p).lk+1≤dpt L (some p):=by
     cases e:(Sfa.st ps p).lk with
     | none=>simp [dpt]
     | some r =>
      rw [k.lk p hp] at e
      have:=((chain_next h hp hpw).1 r e).2.2
      simp only [dpt]; omega
    refine hnx _ ⟨(Sfa.st ps p).lk,_,rfl,k2,fun s=>?_⟩ ?_
    ·rw [st_set ps _ hpl]
     split
     ·have:=setE_len (Sfa.st ps p).ed c ps0.length
      have:=hb p
      simp only; omega
     ·have:=hb s; omega
    ·show mz L (cvL (Sfa.st ps p).lk) < mz L (cvL (some p))
     rw [mz_cv,mz_cv]; omega
 ·simp only [dpt]
  rw [st_app,hlw]
  split
  ·omega
  ·have:=hed s; omega
 ·show mz L (cvL (some last)) < N
  rw [mz_cv]; simp only [dpt]; rw [hlw]; omega
theorem loop2_eq {w:B} {c:UInt8} {ps0 ps1:List Ps} {L:Nat→B} {last p q hf:Nat} {nw cl:Ps} (h:Inv w (vw ps0) L last) (k1:W1 w c ps0 L nw (some p) ps1) (hq0:nxE (Sfa.st ps1 p).ed c=some q) (hn:hf=ps0.length+1) (hnl:ps0.length≤100000) (hw:w.length≤100000) (Bn:Nat) (hBn:Bn≤800000) (hed:∀ s,(Sfa.st (ps1++[cl]) s).ed.length≤Bn)
  (N:Nat) (hN2:1099511627776≤N) {Z:Type} (K:Int × List delta_state→Option Z) (G:Option Z→Prop)
  (hK:∀ po ps,W2 w c ps0 ps1 L p q cl po ps→(∀ p',po=some p'→nxE (Sfa.st ps p').ed c ≠ some q)→(∀ s,(Sfa.st ps s).ed.length≤Bn+w.length+1)→G (K (cvL po,ps.map cv1))) :
 G <| loopN N (fun s nx_363 k_362 =>
    match s with
    | (p_348,o1_349) =>
     chk ((decide (0≤p_348))=true→(0≤p_348∧p_348 < (o1_349.length:Int))) <|
     callG (decide (0≤p_348)) (delta_state_next_i1 (o1_349.getD p_348.toNat (delta_state.mk 0 0 0 [])) (c.toNat:Int)) 0 fun r_365 =>
     bif ((decide (0≤p_348)) && (decide (r_365=(q:Int)))) then
      chk (0≤p_348∧p_348 < (o1_349.length:Int)) <|
      call (delta_state_set_i1 p_348.toNat (c.toNat:Int) (hf:Int) o1_349) fun r_373 =>
      chk (0≤p_348∧p_348 < (r_373.length:Int)) <|
      nx_363 ((r_373.getD p_348.toNat (delta_state.mk 0 0 0 [])).link,r_373)
     else
     k_362 (p_348,o1_349)) ((p:Int),(ps1++[cl]).map cv1) (fun s=>match s with
    | (p_348,o1_349) =>
     K (p_348,o1_349)):=by
 obtain ⟨hp0,hpw0⟩:=k1.at_ p rfl
 have hpl0:(L p).length≤w.length:=hpw0.length_le
 refine loopN_good (S:=Int × List delta_state) (fun s=>∃ (po:Option Nat) (ps:List Ps),s=(cvL po,ps.map cv1)∧W2 w c ps0 ps1 L p q cl po ps∧∀ s,(Sfa.st ps s).ed.length+dpt L po≤Bn+w.length+1) (fun s=>mz L s.1) G ?_ N ((p:Int),(ps1++[cl]).map cv1) ⟨some p,ps1++[cl],rfl,.start h k1 cl,fun s=>?_⟩ ?_
 ·rintro _ nx ⟨po,ps,rfl,k,hb⟩ hnx
  dsimp only at hnx ⊢
  cases po with
  | none =>
   rw [show cvL none=(-1:Int) from rfl,show decide ((0:Int)≤-1)=false from rfl,chk_true (fun h=>by cases h),callG_false,Bool.false_and,cond_false]
   exact hK none ps k (fun p e=>by cases e) fun s=>by have:=hb s; omega
  | some p' =>
   obtain ⟨hp,hpw,_⟩:=k.at_ p' rfl
   have hpl:p' < ps.length:=by rw [k.len]; omega
   rw [cvL_nat,decide_eq_true (by omega),chk_true (fun _=>by simp; omega),callG_true,Int.toNat_natCast,getD_cv ps hpl,next_eq,call_some,Bool.true_and]
   by_cases hq:nxE (Sfa.st ps p').ed c=some q
   ·rw [hq,cvL_nat,decide_eq_true rfl,cond_true,chk_true (by simp; omega)]
    have hbp:=hb p'
    rw [set_eq ps p' c hf hpl (by omega),call_some,chk_true (by simp; omega)]
    subst hn
    have k2:=k.next h k1 hq
    have hst:Sfa.st (ps.set p' { Sfa.st ps p' with ed:=setE (Sfa.st ps p').ed c (ps0.length+1) }) p'={ Sfa.st ps p' with ed:=setE (Sfa.st ps p').ed c (ps0.length+1) }:=by rw [st_set ps _ hpl,if_pos rfl]
    rw [getD_cv _ (by simp; omega),hst]
    have hd:dpt L (Sfa.st ps p').lk+1≤dpt L (some p'):=by
     cases e:(Sfa.st ps p').lk with
     | none=>simp [dpt]
     | some r =>
      rw [k.lk p' hp] at e
      have:=((chain_next h hp hpw).1 r e).2.2
      simp only [dpt]; omega
    refine hnx _ ⟨(Sfa.st ps p').lk,_,rfl,k2,fun s=>?_⟩ ?_
    ·rw [st_set ps _ hpl]
     split
     ·have:=setE_len (Sfa.st ps p').ed c (ps0.length+1)
      have:=hb p'
      simp only; omega
     ·have:=hb s; omega
    ·show mz L (cvL (Sfa.st ps p').lk) < mz L (cvL (some p'))
     rw [mz_cv,mz_cv]; omega
   ·have hne:cvL (nxE (Sfa.st ps p').ed c) ≠ (q:Int):=by
     intro e
     cases e2:nxE (Sfa.st ps p').ed c with
     | none=>rw [e2] at e; simp only [cvL] at e; omega
     | some r =>
      rw [e2] at e hq
      simp only [cvL] at e
      exact hq (congrArg some (by omega))
    rw [decide_eq_false hne,cond_false]
    exact hK (some p') ps k (fun p2 e=>by cases e; exact hq) fun s=>by have:=hb s; omega
 ·simp only [dpt]
  have:=hed s; omega
 ·show mz L (cvL (some p)) < N
  rw [mz_cv]; simp only [dpt]; omega
end
section
open Go.Sfa
theorem letv_eq {A Z:Type} (a:A) (k:A→Option Z):letv a k=k a:=rfl
theorem jp_good {S Z:Type} {F:S→Option Z} {m:(S→Option Z)→Option Z} {G:Option Z→Prop} (h:∀ K,(∀ s,K s=F s)→G (m K)):G (jp F m):=h F fun _=>rfl
theorem lnk_cv (ps:List Ps) {s t:Nat} (hs:s < ps.length) :
  List.set (ps.map cv1) s (delta_state.mk (((ps.map cv1).getD s (delta_state.mk 0 0 0 [])).long) (((ps.map cv1).getD s (delta_state.mk 0 0 0 [])).end_) (t:Int) (((ps.map cv1).getD s (delta_state.mk 0 0 0 [])).edges))=(lnk ps s t).map cv1:=by
 rw [getD_cv ps hs]
 exact set_cv ps s { Sfa.st ps s with lk:=some t }
theorem add_eq {w:B} {c:UInt8} {ps0:List Ps} {L:Nat→B} {last:Nat} (h:Inv w (vw ps0) L last) (hnl:ps0.length≤2 * w.length+1) (hw:w.length < 600) (hed:∀ s,(Sfa.st ps0 s).ed.length≤w.length * (w.length+1)) :
  ∃ ps' L',delta_automaton_add_i1 (c.toNat:Int) ((w.length+1:Nat):Int) (last:Int) (ps0.map cv1)=some ((ps0.length:Int),ps'.map cv1)∧Inv (w++[c]) (vw ps') L' ps0.length∧ps'.length≤ps0.length+2∧∀ s,(Sfa.st ps' s).ed.length≤(w.length+1) * (w.length+2):=by
 let G:Option (Int × List delta_state)→Prop:=fun r=>∃ ps' L',r=some ((ps0.length:Int),ps'.map cv1)∧Inv (w++[c]) (vw ps') L' ps0.length∧ps'.length≤ps0.length+2∧∀ s,(Sfa.st ps' s).ed.length≤(w.length+1) * (w.length+2)
 have hq1:w.length * (w.length+1)≤600 * 600:=Nat.mul_le_mul (by omega) (by omega)
 have hq2:w.length * (w.length+1)+w.length+1+w.length+1=(w.length+1) * (w.length+2):=by
  generalize w.length=n
  rw [Nat.add_mul,Nat.mul_add,Nat.mul_add]; omega
 obtain ⟨N,hN⟩:∃ N,Fuel=N:=⟨_,rfl⟩
 have hN2:1099511627776≤N:=hN ▸ fuel_ge
 show G (delta_automaton_add_i1 _ _ _ _)
 unfold delta_automaton_add_i1
 rw [hN]
 clear hN
 have e0:ps0.map cv1++[(delta_state.mk ((w.length+1:Nat):Int) ((w.length+1:Nat):Int) 0 [])]=(ps0++[nwS w 0]).map cv1:=by
  rw [List.map_append]; rfl
 rw [e0,chk_true (by simp; omega),letv_eq,List.length_map]
 refine jp_good fun K hK=>?_
 refine loop1_eq (c:=c) (nw:=nwS w 0) h rfl (by omega) (by omega) (w.length * (w.length+1)) (by omega) hed (show 0≤_ from Nat.zero_le _) N hN2 K G fun po ps k hpo hb=>?_
 rw [hK]
 dsimp only
 have hpsl:=k.len
 cases po with
 | none =>
  rw [show decide (cvL none < 0)=true from rfl,cond_true]
  exact ⟨ps,_,rfl,k.endNone h,by omega,fun s=>by have:=hb s; omega⟩
 | some p =>
  obtain ⟨hp,hpw⟩:=k.at_ p rfl
  have hpl:p < ps.length:=by omega
  obtain ⟨q,hq⟩:=Option.isSome_iff_exists.1 (hpo p rfl)
  have hq0:nxE (Sfa.st ps0 p).ed c=some q:=(k.below h hq).1
  have hqn:q < ps0.length:=(h.nx p c q hp hq0).1
  have hql:q < ps.length:=by omega
  have hlgp:(Sfa.st ps p).lg=(L p).length:=(k.lg p hp).trans (h.lg p hp)
  have hlpw:=hpw.length_le
  rw [cvL_nat,decide_eq_false (by omega),cond_false,chk_true (by simp; omega)]
  simp only [Int.toNat_natCast,getD_cv ps hpl]
  rw [next_eq,hq,call_some,cvL_nat,chk_true (by simp; omega),chk_true (by simp; omega)]
  simp only [Int.toNat_natCast,getD_cv ps hql]
  have e1:IntKind.i64.wrap ((cv1 (Sfa.st ps p)).long+1)=(((Sfa.st ps p).lg+1:Nat):Int):=wrap1 _ (by omega)
  simp only [e1]
  by_cases hlg:(Sfa.st ps q).lg=(Sfa.st ps p).lg+1
  ·rw [decide_eq_true (show (cv1 (Sfa.st ps q)).long=_ from congrArg Nat.cast hlg),cond_true,chk_true (by simp; omega),letv_eq]
   refine ⟨ps.set ps0.length (nwS w q),_,?_,k.endA h hq hlg hqn,by simp; omega,fun s=>?_⟩
   ·congr 2
    rw [getD_cv ps (by omega),k.new]
    exact set_cv ps ps0.length (nwS w q)
   ·rw [st_set _ _ (by omega)]
    split
    ·exact Nat.zero_le _
    ·have:=hb s; omega
  ·rw [decide_eq_false (show ¬ (cv1 (Sfa.st ps q)).long=_ from fun e=>hlg (Int.ofNat_inj.1 e)),cond_false,chk_true (by simp; omega),chk_true (by simp; omega)]
   have hbq:=hb q
   rw [chk_true (by simp [cv1,cvE]; omega)]
   have e2:ps.map cv1++[(delta_state.mk (((Sfa.st ps p).lg+1:Nat):Int) ((cv1 (Sfa.st ps q)).end_) ((cv1 (Sfa.st ps q)).link) ([]++((cv1 (Sfa.st ps q)).edges)))]=(ps++[cln ps p q]).map cv1:=by
    rw [List.map_append]; rfl
   rw [e2,chk_true (by simp; omega),letv_eq,List.length_map]
   refine jp_good fun K2 hK2=>?_
   refine loop2_eq (c:=c) h k hq hpsl (by omega) (by omega) (w.length * (w.length+1)+w.length+1) (by omega) (fun s=>?_) N hN2 (fun s=>K2 s.2) G fun po2 ps2 k2 hpo2 hb2=>?_
   ·rw [st_app]
    split
    ·exact hbq
    ·exact hb s
   ·dsimp only
    rw [hK2]
    have hl2:=k2.len
    rw [chk_true (by simp; omega),letv_eq,hpsl,lnk_cv ps2 (t:=ps0.length+1) (by omega)]
    have hll:(lnk ps2 q (ps0.length+1)).length=ps2.length:=by simp [lnk]
    rw [chk_true (by simp; omega),letv_eq,lnk_cv (lnk ps2 q (ps0.length+1)) (t:=ps0.length+1) (by omega)]
    refine ⟨lnk (lnk ps2 q (ps0.length+1)) ps0.length (ps0.length+1),_,rfl,k2.endB h k hq hqn hlg hpo2,by simp [lnk]; omega,fun s=>?_⟩
    obtain ⟨_,_,a3,_⟩:=lnk_st (lnk ps2 q (ps0.length+1)) (s:=ps0.length) (t:=ps0.length+1) (by omega) s
    obtain ⟨_,_,b3,_⟩:=lnk_st ps2 (s:=q) (t:=ps0.length+1) (by omega) s
    rw [a3,b3]
    have:=hb2 s
    omega
end
section
open Go.Sfa
theorem newAutomaton_eq (a:Str) (ha:a.length≤600):∃ ps L last,delta_newAutomaton a=some (ps.map cv1,((last:Nat):Int))∧Inv a (vw ps) L last∧ps.length≤2 * a.length+1:=by
 let G:Option (List delta_state × Int)→Prop:=fun r=>∃ ps L last,r=some (ps.map cv1,((last:Nat):Int))∧Inv a (vw ps) L last∧ps.length≤2 * a.length+1
 show G (delta_newAutomaton a)
 unfold delta_newAutomaton
 rw [letv_eq]
 refine jp_good fun K hK=>?_
 refine forL_good (S:=List delta_state × Int) (fun i l s=>∃ w ps L last,a=w++l∧i=w.length∧s=(ps.map cv1,((last:Nat):Int))∧Inv w (vw ps) L last∧ps.length≤2 * w.length+1∧∀ s,(Sfa.st ps s).ed.length≤w.length * (w.length+1)) G ?_ ?_ a 0 ([delta_state.mk 0 0 (-1) []],0) ⟨[],[s00],fun _=>[],0,rfl,rfl,rfl,.init,Nat.le_refl _,fun s=>?_⟩
 ·rintro i _ ⟨w,ps,L,last,e,_,rfl,h,hl,_⟩
  rw [List.append_nil] at e
  subst e
  dsimp only
  rw [hK]
  exact ⟨ps,L,last,rfl,h,hl⟩
 ·rintro i c l _ nx ⟨w,ps,L,last,e,rfl,rfl,h,hl,hb⟩ hnx
  have hw:w.length < 600:=by rw [e] at ha; simp at ha; omega
  obtain ⟨ps',L',e1,h',hl',hb'⟩:=add_eq (c:=c) h hl hw hb
  dsimp only
  rw [wrap1 _ (by omega)]
  rw [e1,call_some]
  exact hnx _ ⟨w++[c],ps',L',ps.length,by rw [e]; simp,by simp,rfl,h',by simp; omega,by simpa using hb'⟩
 ·have:Sfa.st [s00] s=s00:=by
   cases s with
   | zero=>rfl
   | succ s=>rfl
  rw [this]
  exact Nat.zero_le _
theorem longest_eq {a:Str} {ps:List Ps} {L:Nat→B} {last:Nat} (h:Inv a (vw ps) L last) (ha:a.length≤600) (t:Str) (ht:t.length≤600) (x:Int) :
  delta_automaton_longest_i1 t x (ps.map cv1)=some (((Sfa.bst a t).1:Int),((Sfa.bst a t).2:Int)):=by
 unfold delta_automaton_longest_i1
 rw [jp_eq]
 obtain ⟨N,hN⟩:∃ N,Fuel=N:=⟨_,rfl⟩
 have hN2:1099511627776≤N:=hN ▸ fuel_ge
 rw [hN]
 clear hN
 refine loopN_run (S:=Int × Int) (fun s=>∃ m q:Nat,s=((m:Int),(q:Int))∧m≤t.length∧q < ps.length∧Top a (t.take m) (L q)) (fun s=>t.length - s.1.toNat) (fun _=>some (((Sfa.bst a t).1:Int),((Sfa.bst a t).2:Int))) ?_ N (0,0) ⟨0,0,rfl,by omega,h.pos,by simpa using top0 h⟩ (by simp only; omega)
 rintro _ nx ⟨m,q,rfl,hm,hq,htop⟩ hnx
 dsimp only
 have fin:(m=t.length ∨ ¬ Fc a (t.take (m+1)))→(chk (0≤(q:Int)∧(q:Int) < ((ps.map cv1).length:Int)) <| some (IntKind.i64.wrap ((((ps.map cv1).getD (q:Int).toNat (delta_state.mk 0 0 0 [])).end_) - (m:Int)),(m:Int)))=some (((Sfa.bst a t).1:Int),((Sfa.bst a t).2:Int)):=by
  intro hn
  rw [chk_true (by simp; omega)]
  have hf:=htop.first (h.fi q hq)
  obtain ⟨h1,h2⟩:=bst_walk hm hf hn
  have h3:=hf.1.1
  simp only [Int.toNat_natCast,getD_cv ps hq,h2]
  have h4:(cv1 (Sfa.st ps q)).end_=((vw ps).fi q:Int):=rfl
  rw [h4,wrapS (by omega) (by omega)]
  congr 2
  omega
 by_cases hc:m < t.length
 ·rw [decide_eq_true (by omega),cond_true,chk_true (by simp; omega),idxS_eq hc]
  simp only [Int.toNat_natCast,getD_cv ps hq]
  rw [next_eq,call_some]
  have htk:t.take (m+1)=t.take m++[t[m]]:=List.take_succ_eq_append_getElem hc
  cases hx:nxE (Sfa.st ps q).ed t[m] with
  | none =>
   rw [show decide (cvL none < 0)=true from rfl,cond_true]
   have fin2:=fin (.inr ?_)
   ·simpa only [Int.toNat_natCast,getD_cv ps hq] using fin2
   rw [htk]
   exact htop.no (h.nx0 q _ hq hx)
  | some r =>
   obtain ⟨hr,htr⟩:=h.nx q _ r hq hx
   rw [cvL_nat,decide_eq_false (by omega),cond_false,wrap1 m (by omega)]
   refine hnx _ ⟨m+1,r,rfl,hc,hr,?_⟩ (by simp only [Int.toNat_natCast]; omega)
   rw [htk]
   exact htop.go htr
 ·rw [decide_eq_false (by omega),cond_false]
  exact fin (.inl (by omega))
end
section
open Go.Sfa
theorem lcp_cpl:∀ a b:Str,lcp a b=cpl a b
 | [],b=>by simp [lcp,cpl]
 | x::a,[]=>by simp [lcp,cpl]
 | x::a,y::b=>by
  simp only [lcp,cpl]
  rw [lcp_cpl a b]
theorem bst_scan {a b:Str}:∀ (r:Str) (k:Nat),a.drop k=r→Go.Md.bst b r k (scan a b k)=scan a b (k+r.length)
 | [],k,_=>rfl
 | x::r,k,h=>by
  obtain ⟨hi,hd⟩:=drop_cons h
  have:=bst_scan (b:=b) r (k+1) hd
  simp only [Go.Md.bst,List.length_cons]
  rw [show k+(r.length+1)=k+1+r.length by omega,← this]
  simp only [scan]
  rw [h,lcp_cpl]
theorem best_bst (a b:Str):best a b=Sfa.bst a b:=by
 have:=bst_scan (b:=b) a 0 List.drop_zero
 unfold best Sfa.bst
 rw [Nat.zero_add] at this
 exact this
theorem take_snoc (b:Str) {f j:Nat} (h:f≤j) (hj:j < b.length):(b.drop f).take (j - f)++(b.drop j).take 1=(b.drop f).take (j+1 - f):=by
 have e:(b.drop j).take 1=((b.drop f).drop (j - f)).take 1:=by rw [List.drop_drop,Nat.add_sub_cancel' h]
 rw [e,show j+1 - f=(j - f)+1 by omega,List.take_add]
theorem dataP_cut (b:Str) {f j:Nat} (h:f≤j) (hj:j≤b.length):dataP ((b.drop f).take (j - f))=if f < j then [⟨0,0,(b.drop f).take (j - f)⟩] else []:=by
 unfold dataP
 have hl:((b.drop f).take (j - f)).length=j - f:=by simp; omega
 by_cases e:f < j
 ·rw [if_pos e,if_neg fun h=>by rw [h] at hl; simp at hl; omega]
 ·rw [if_neg e,if_pos (List.length_eq_zero_iff.1 (by omega))]
theorem make_loop {Z:Type} (a b:Str) (ha:a.length≤600) (hb:b.length≤600) {ps:List Ps} {L:Nat→B} {last:Nat} (h:Inv a (vw ps) L last) (K:Int × List Pc→Option Z) (R:List Pc→Option Z)
  (hK:∀ (f:Nat) o,f≤b.length→o.length≤b.length→K ((f:Int),o)=R (o++dataP ((b.drop f).take (b.length - f)))):∀ (n N j f:Nat) (o:List Pc),n≤N→b.length - j < n→j≤b.length→f≤j→o.length≤f →
 loopN N (fun s nx_99 k_98 =>
  match s with
  | (from_86,at_87,o5_88) =>
   bif decide (at_87 < (b.length:Int)) then
    chk (0≤at_87∧at_87≤(b.length:Int)) <|
    call (delta_automaton_longest_i1 (List.drop at_87.toNat b) (last:Int) (ps.map cv1)) fun r_101 =>
    bif decide (r_101.2 < 8) then
     nx_99 (from_86,IntKind.i64.wrap (at_87+1),o5_88)
    else
    jp (S:=List api_Piece) (fun o5_104 =>
     chk ((o5_104++[(api_Piece.mk r_101.1 r_101.2 [])]).length≤274877906944) <|
     nx_99 (IntKind.i64.wrap (at_87+r_101.2),IntKind.i64.wrap (at_87+r_101.2),o5_104++[(api_Piece.mk r_101.1 r_101.2 [])])) fun k_105 =>
    bif decide (from_86 < at_87) then
     chk (0≤from_86∧from_86≤(b.length:Int)∧0≤at_87∧at_87≤(b.length:Int)∧from_86≤at_87) <|
     chk ((o5_88++[(api_Piece.mk 0 0 (List.take (at_87.toNat - from_86.toNat) (List.drop from_86.toNat b)))]).length≤274877906944) <|
     k_105 (o5_88++[(api_Piece.mk 0 0 (List.take (at_87.toNat - from_86.toNat) (List.drop from_86.toNat b)))])
    else
    k_105 o5_88
   else
   k_98 (from_86,at_87,o5_88)) ((f:Int),(j:Int),o) (fun s=>match s with
  | (from_86,at_87,o5_88) =>
   K (from_86,o5_88))=R (o++mkP a n (b.drop j) ((b.drop f).take (j - f))):=by
 intro n
 induction n with
 | zero=>intro N j f o _ h; omega
 | succ n ih =>
  intro N j f o hN hj hjb hf ho
  obtain ⟨N,rfl⟩:∃ N',N=N'+1:=⟨N - 1,by omega⟩
  unfold loopN
  dsimp only
  by_cases hlt:j < b.length
  rotate_left
  ·obtain rfl:j=b.length:=by omega
   rw [decide_eq_false (by omega),cond_false]
   simp only [mkP]
   rw [if_pos (List.drop_eq_nil_of_le (by omega)),hK f o hf (by omega)]
  ·rw [decide_eq_true (by omega),cond_true,chk_true (by omega)]
   simp only [Int.toNat_natCast]
   rw [longest_eq h ha (b.drop j) (by simp; omega),call_some]
   have hne:¬ b.drop j=[]:=by rw [List.drop_eq_nil_iff]; omega
   have hb':=best_ok a (b.drop j)
   rw [List.length_drop] at hb'
   simp only [mkP]
   rw [if_neg hne,← best_bst]
   generalize best a (b.drop j)=p at hb' ⊢
   obtain ⟨at_,long⟩:=p
   dsimp only at hb' ⊢
   by_cases h8:long < 8
   ·rw [decide_eq_true (by omega),cond_true,if_pos h8,wrap1 j (by omega),take_snoc b hf hlt,List.drop_drop]
    exact ih N (j+1) f o (by omega) (by omega) (by omega) (by omega) ho
   ·rw [decide_eq_false (by omega),cond_false,if_neg h8,jp_eq,wrapS (by omega) (by omega),show (j:Int)+(long:Int)=((j+long:Nat):Int) by omega,List.drop_drop,dataP_cut b hf hjb]
    have z:(b.drop (j+long)).take (j+long - (j+long))=[]:=by simp
    by_cases he:f < j
    ·rw [if_pos he,decide_eq_true (by omega),cond_true,chk_true (by omega),chk_true (by simp; omega)]
     dsimp only
     rw [chk_true (by simp; omega)]
     refine (ih N (j+long) (j+long) ((o++[⟨0,0,(b.drop f).take (j - f)⟩])++[⟨at_,long,[]⟩]) (by omega) (by omega) (by omega) (by omega) (by simp; omega)).trans ?_
     rw [z]; simp
    ·rw [if_neg he,decide_eq_false (by omega),cond_false]
     dsimp only
     rw [chk_true (by simp; omega)]
     refine (ih N (j+long) (j+long) (o++[⟨at_,long,[]⟩]) (by omega) (by omega) (by omega) (by omega) (by simp; omega)).trans ?_
     rw [z]; simp
theorem Make_eq (a b:Str) (ha:a.length≤600) (hb:b.length≤600):delta_Make a b=some (⟨(a.length:Int),(b.length:Int),sumS a,sumS b,piecesOf a b⟩,0):=by
 unfold delta_Make
 rw [bif_f (by rw [decide_eq_false (by omega),decide_eq_false (by omega)]; rfl),disk_SumOf_eq,call_some,disk_SumOf_eq,call_some]
 obtain ⟨ps,L,last,e,h,_⟩:=newAutomaton_eq a ha
 rw [e,call_some]
 obtain ⟨N,hN⟩:∃ N,Fuel=N:=⟨_,rfl⟩
 have hN2:1099511627776≤N:=hN ▸ fuel_ge
 rw [hN]
 clear hN
 obtain ⟨h1,h2,h3,h4⟩:=mkP_ok a (b.length+1) b [] (by omega)
 rw [if_pos rfl] at h2
 have hl:(piecesOf a b).length≤600:=by unfold piecesOf; omega
 rw [jp_eq]
 dsimp only
 have:=make_loop a b ha hb h (fun s=>jp (S:=List api_Piece) (fun o5_58 =>
    bif decide (5000 < (o5_58.length:Int)) then
     some ((api_Delta.mk 0 0 [] [] []),4)
    else
    some ((api_Delta.mk (a.length:Int) (b.length:Int) (sumS a) (sumS b) o5_58),0)) fun k_59 =>
   bif decide (s.1 < (b.length:Int)) then
    chk (0≤s.1∧s.1≤(b.length:Int)) <|
    chk ((s.2++[(api_Piece.mk 0 0 (List.drop s.1.toNat b))]).length≤274877906944) <|
    k_59 (s.2++[(api_Piece.mk 0 0 (List.drop s.1.toNat b))])
   else
   k_59 s.2) (fun l=>bif decide (5000 < (l.length:Int)) then
     some ((api_Delta.mk 0 0 [] [] []),4)
    else
    some ((api_Delta.mk (a.length:Int) (b.length:Int) (sumS a) (sumS b) l),(0:Int))) (fun f o hf ho=>?_) (b.length+1) N 0 0 [] (by omega) (by omega) (by omega) (by omega) (by simp)
 ·refine this.trans ?_
  rw [List.nil_append,List.drop_zero,show List.take (0 - 0) b=[] from rfl,show mkP a (b.length+1) b []=piecesOf a b from rfl,decide_eq_false (by omega),cond_false]
 ·dsimp only
  rw [jp_eq,dataP_cut b hf (Nat.le_refl _)]
  by_cases e:f < b.length
  ·rw [decide_eq_true (by omega),cond_true,if_pos e,chk_true (by omega),chk_true (by simp; omega)]
   simp only [Int.toNat_natCast]
   rw [show List.take (b.length - f) (List.drop f b)=List.drop f b from List.take_of_length_le (by simp)]
  ·rw [decide_eq_false (by omega),cond_false,if_neg e,List.append_nil]
end
def mkD (a b:Str):api_Delta:=⟨(a.length:Int),(b.length:Int),sumS a,sumS b,piecesOf a b⟩
theorem mkD_ok {a b:Str} (ha:a.length≤600) (hb:b.length≤600):Dok (mkD a b):=Delta_dok a b ha hb
theorem mkD_made (a b:Str):made a (mkD a b).Pieces=b:=by
 obtain ⟨_,_,_,h4⟩:=mkP_ok a (b.length+1) b [] (by omega)
 exact h4
theorem patch_mk (a b:Str):patch a (mkD a b)=(b,0):=by
 unfold patch
 have h:=mkD_made a b
 rw [if_neg (by simp [mkD]),h,if_neg (by simp [mkD])]
theorem tot_le {old:Int} (ho:old≤65536):∀ (l:List Pc) (n:Int),(∀ p ∈ l,Pok old p∧p.Data.length≤1048576)→0≤n→n+1048576 * (l.length:Int)≤4611686018427387904→(peL old l n).2=0→0≤tot l∧n+tot l≤65536
 | [],n,_,h0,_,h=>by
  unfold peL at h
  by_cases hc:65536 < n
  ·rw [decide_eq_true hc] at h; cases h
  ·simp [tot]; omega
 | p::l,n,hp,h0,h1,h=>by
  have ht:tot (p::l)=psz p+tot l:=by simp [tot]
  obtain ⟨hp1,hp2⟩:=hp p (by simp)
  have hl:((p::l).length:Int)=(l.length:Int)+1:=by simp
  rw [hl] at h1
  have hq:0≤psz p∧psz p≤1048576:=by
   unfold psz
   rcases hp1 with ⟨a,_,_⟩ | ⟨a,_,c,_⟩
   ·rw [if_neg a]; omega
   ·rw [if_pos a]; omega
  have hrec:(peL old l (n+psz p)).2=0:=by
   unfold peL at h
   rcases hp1 with ⟨a,b,c⟩ | ⟨a,b,c,d⟩
   ·rw [decide_eq_false a,b,c] at h
    simp only [Bool.not_false,cond_true,decide_true,Bool.not_true,Bool.or_self,cond_false] at h
    have e:psz p=(p.Data.length:Int):=if_neg a
    rw [wrapS (by omega) (by omega)] at h
    rw [e]; exact h
   ·have e:psz p=p.Long:=if_pos a
    rw [decide_eq_true a,decide_eq_false (show ¬ p.At < 0 by omega),decide_eq_false (show ¬ p.Long < 1 by omega),decide_eq_false (show ¬ old < p.At by omega),decide_eq_false (show ¬ old - p.At < p.Long by omega)] at h
    simp only [Bool.not_true,cond_false,Bool.or_self] at h
    rw [wrapS (by omega) (by omega)] at h
    rw [e]; exact h
  have:=tot_le ho l (n+psz p) (fun q hq=>hp q (by simp [hq])) (by omega) (by omega) hrec
  rw [ht]; omega
theorem tot_mem:∀ (l:List Pc) {old:Int},(∀ p ∈ l,Pok old p)→(∀ p ∈ l,(p.Data.length:Int)≤tot l)∧((l.flatMap pp).length:Int)≤9 * (l.length:Int)+tot l∧0≤tot l
 | [],_,_=>by simp [tot]
 | p::l,old,h=>by
  have ht:tot (p::l)=psz p+tot l:=by simp [tot]
  obtain ⟨i1,i2,i3⟩:=tot_mem l fun q hq=>h q (by simp [hq])
  have hl:((p::l).length:Int)=(l.length:Int)+1:=by simp
  have hq:0≤psz p∧(p.Data.length:Int)≤psz p∧((pp p).length:Int)≤9+psz p:=by
   have g1:=grpS_len p.At
   have g2:=grpS_len p.Long
   have g3:=grpS_len (p.Data.length:Int)
   unfold psz pp
   rcases h p (by simp) with ⟨a,_,_⟩ | ⟨a,_,c,_⟩
   ·rw [if_neg a,if_neg a]
    simp only [List.length_append,List.length_cons,List.length_nil]; omega
   ·rw [if_pos a,if_pos a,a]
    simp only [List.length_append,List.length_cons,List.length_nil]; omega
  rw [ht,hl]
  simp only [List.flatMap_cons,List.length_append,List.mem_cons]
  refine ⟨?_,by omega,by omega⟩
  rintro q (rfl | hq')
  ·omega
  ·have:=i1 q hq'; omega
theorem Dok.tot {d:api_Delta} (h:Dok d):0≤tot d.Pieces∧tot d.Pieces≤65536:=by
 obtain ⟨o1,o2,n1,n2,s1,s2,l1,hp⟩:=de_ok h.ok
 have hpe:(pe d.Pieces d.Old).2=0:=by
  have:=h.ok
  unfold de at this
  by_cases c1:((((decide (d.Old < 0)) || (decide (65536 < d.Old))) || (decide (d.New < 0))) || (decide (65536 < d.New)))=true
  ·rw [c1] at this; cases this
  ·rw [Bool.not_eq_true] at c1
   rw [c1,s1,s2] at this
   simp only [cond_false,Bool.not_true,Bool.or_self] at this
   by_cases e:(pe d.Pieces d.Old).2=0
   ·exact e
   ·rw [decide_eq_false e] at this; exact this
 unfold pe at hpe
 rw [bif_f (by rw [decide_eq_false (by omega),decide_eq_false (by omega)]; rfl),bif_f (decide_eq_false (by omega))] at hpe
 have:=tot_le o2 d.Pieces 0 (fun p hp'=>⟨hp p hp',h.sm p hp'⟩) (by omega) (by omega) hpe
 omega
section
variable {Z A S α:Type} {P:Z→Prop}
def Ends {Z:Type} (m:Option Z) (P:Z→Prop):Prop:=∃ z,m=some z∧P z
theorem Ends.call {a:Option A} {k:A→Option Z} {Q:A→Prop} (h:Ends a Q) (hk:∀ x,Q x→Ends (k x) P):Ends (Vc.call a k) P:=by
 obtain ⟨x,rfl,hx⟩:=h
 exact hk x hx
theorem Ends.mono {a:Option Z} {Q:Z→Prop} (h:Ends a Q) (hk:∀ x,Q x→P x):Ends a P:=by
 obtain ⟨x,e,hx⟩:=h
 exact ⟨x,e,hk x hx⟩
theorem forL_ex {f:Nat→α→S→(S→Option Z)→(S→Option Z)→Option Z} {k:S→Option Z} (inv:Nat→List α→S→Prop)
  (h0:∀ i s,inv i [] s→Ends (k s) P) (h1:∀ i x l s nx,inv i (x::l) s→(∀ s',inv (i+1) l s'→Ends (nx s') P)→Ends (f i x s nx k) P) :
  ∀ (l:List α) (i:Nat) (s:S),inv i l s→Ends (forL l i f s k) P
 | [],i,s,h=>h0 i s h
 | x::l,i,s,h=>h1 i x l s _ h fun s' hs=>forL_ex inv h0 h1 l (i+1) s' hs
theorem forC_ex {f:Nat→S→(S→Option Z)→(S→Option Z)→Option Z} {k:S→Option Z} (n:Nat) (inv:Nat→S→Prop)
  (h0:∀ s,inv n s→Ends (k s) P) (h1:∀ i s nx,i < n→inv i s→(∀ s',inv (i+1) s'→Ends (nx s') P)→Ends (f i s nx k) P) :
  ∀ (m i:Nat) (s:S),m+i=n→inv i s→Ends (forC m i f s k) P
 | 0,i,s,e,h=>by
  obtain rfl:i=n:=by omega
  exact h0 s h
 | m+1,i,s,e,h=>by
  unfold forC
  exact h1 i s _ (by omega) h fun s' hs=>forC_ex n inv h0 h1 m (i+1) s' (by omega) hs
theorem loopN_exJ0 {f:S→(S→Option Z)→(S→Option Z)→Option Z} {k:S→Option Z} (inv:Nat→S→Prop)
  (h:∀ j s nx,inv j s→(∀ j' s',j' < j→inv j' s'→Ends (nx s') P)→Ends (f s nx k) P):∀ (N j:Nat) (s:S),inv j s→j < N→Ends (loopN N f s k) P
 | 0,j,s,_,hm=>by omega
 | N+1,j,s,hi,hm=>by
  unfold loopN
  exact h j s _ hi fun j' s' hlt hs'=>loopN_exJ0 inv h N j' s' hs' (by omega)
theorem loopN_exJ {f:S→(S→Option Z)→(S→Option Z)→Option Z} {k:S→Option Z} (inv:Nat→S→Prop)
  (h:∀ j s nx,inv j s→(∀ j' s',j' < j→inv j' s'→Ends (nx s') P)→Ends (f s nx k) P) (j:Nat) (s:S) (hi:inv j s) (hm:j < 1099511627776):Ends (loopN Fuel f s k) P:=by
 obtain ⟨N,hN⟩:∃ N,Fuel=N:=⟨_,rfl⟩
 have hN2:1099511627776≤N:=hN ▸ fuel_ge
 rw [hN]
 exact loopN_exJ0 inv h N j s hi (by omega)
theorem getD_set (o:List α) (i p:Nat) (x d:α) (h:i < o.length):(o.set i x).getD p d=if i=p then x else o.getD p d:=by
 simp only [List.getD_eq_getElem?_getD,List.getElem?_set]
 by_cases e:i=p
 ·subst e; simp [h]
 ·simp [e]
end
def cmpL:List Int→List Int→Int
 | [],[]=>0
 | [],_::_=>-1
 | _::_,[]=>1
 | x::a,y::b=>bif decide (x < y) then -1 else bif decide (y < x) then 1 else cmpL a b
def lexL:List Int→List Int→Prop
 | x::a,y::b=>x < y ∨ x=y∧lexL a b
 | _,_=>False
theorem lexL_irr:∀ a,¬ lexL a a
 | []=>id
 | x::a=>by
  rintro (h | ⟨_,h⟩)
  ·omega
  ·exact lexL_irr a h
theorem lexL_trans:∀ {a b c},lexL a b→lexL b c→lexL a c
 | x::a,y::b,z::c,h1,h2=>by
  rcases h1 with h1 | ⟨rfl,h1⟩ <;> rcases h2 with h2 | ⟨rfl,h2⟩
  ·exact .inl (by omega)
  ·exact .inl h1
  ·exact .inl h2
  ·exact .inr ⟨rfl,lexL_trans h1 h2⟩
 | x::a,y::b,[],_,h2=>h2.elim
theorem lexL_tri:∀ {a b:List Int},a.length=b.length→lexL a b ∨ a=b ∨ lexL b a
 | [],[],_=>.inr (.inl rfl)
 | x::a,y::b,h=>by
  rcases Int.lt_trichotomy x y with h1 | rfl | h1
  ·exact .inl (.inl h1)
  ·rcases lexL_tri (a:=a) (b:=b) (by simpa using h) with h2 | rfl | h2
   ·exact .inl (.inr ⟨rfl,h2⟩)
   ·exact .inr (.inl rfl)
   ·exact .inr (.inr (.inr ⟨rfl,h2⟩))
  ·exact .inr (.inr (.inl h1))
theorem lexL_app (v:List Int):∀ {a b},lexL a b→lexL (a++v) (b++v)
 | x::a,y::b,h=>by
  rcases h with h | ⟨rfl,h⟩
  ·exact .inl h
  ·exact .inr ⟨rfl,lexL_app v h⟩
theorem cmpL_lt:∀ {a b:List Int},a.length=b.length→(cmpL a b < 0 ↔ lexL a b)
 | [],[],_=>by simp [cmpL,lexL]
 | x::a,y::b,h=>by
  have ih:=cmpL_lt (a:=a) (b:=b) (by simpa using h)
  unfold cmpL lexL
  by_cases h1:x < y
  ·simp [h1]
  ·rw [decide_eq_false h1,cond_false]
   by_cases h2:y < x
   ·rw [decide_eq_true h2,cond_true]
    constructor
    ·intro h; omega
    ·rintro (h | ⟨h,_⟩) <;> omega
   ·rw [decide_eq_false h2,cond_false,ih]
    have:x=y:=by omega
    simp [this]
abbrev Rt:=Int × List Int
def Lt (a b:Rt):Prop:=a.1 < b.1 ∨ a.1=b.1∧(a.2.length < b.2.length ∨ a.2.length=b.2.length∧lexL a.2 b.2)
theorem Lt_irr (a:Rt):¬ Lt a a:=by
 rintro (h | ⟨_,h | ⟨_,h⟩⟩)
 ·omega
 ·omega
 ·exact lexL_irr _ h
theorem Lt_trans {a b c:Rt} (h1:Lt a b) (h2:Lt b c):Lt a c:=by
 rcases h1 with h1 | ⟨e1,h1 | ⟨f1,h1⟩⟩ <;> rcases h2 with h2 | ⟨e2,h2 | ⟨f2,h2⟩⟩
 ·exact .inl (by omega)
 ·exact .inl (by omega)
 ·exact .inl (by omega)
 ·exact .inl (by omega)
 ·exact .inr ⟨by omega,.inl (by omega)⟩
 ·exact .inr ⟨by omega,.inl (by omega)⟩
 ·exact .inl (by omega)
 ·exact .inr ⟨by omega,.inl (by omega)⟩
 ·exact .inr ⟨by omega,.inr ⟨by omega,lexL_trans h1 h2⟩⟩
theorem Lt_tri (a b:Rt):Lt a b ∨ a=b ∨ Lt b a:=by
 rcases Int.lt_trichotomy a.1 b.1 with h | h | h
 ·exact .inl (.inl h)
 ·rcases Nat.lt_trichotomy a.2.length b.2.length with g | g | g
  ·exact .inl (.inr ⟨h,.inl g⟩)
  ·rcases lexL_tri g with k | k | k
   ·exact .inl (.inr ⟨h,.inr ⟨g,k⟩⟩)
   ·exact .inr (.inl (Prod.ext h k))
   ·exact .inr (.inr (.inr ⟨h.symm,.inr ⟨g.symm,k⟩⟩))
  ·exact .inr (.inr (.inr ⟨h.symm,.inl g⟩))
 ·exact .inr (.inr (.inl h))
def Le (a b:Rt):Prop:=¬ Lt b a
theorem Le_refl (a:Rt):Le a a:=Lt_irr a
theorem Le_of_Lt {a b:Rt} (h:Lt a b):Le a b:=fun h'=>Lt_irr _ (Lt_trans h h')
theorem Le_trans {a b c:Rt} (h1:Le a b) (h2:Le b c):Le a c:=by
 intro h
 rcases Lt_tri a b with g | rfl | g
 ·exact h2 (Lt_trans h g)
 ·exact h2 h
 ·exact h1 g
def ex (r:Rt) (v c:Int):Rt:=(r.1+c,r.2++[v])
theorem Le_ex (r:Rt) (v c:Int) (h:0≤c):Le r (ex r v c):=Le_of_Lt (by
 unfold Lt ex
 simp only [List.length_append,List.length_cons,List.length_nil]
 omega)
theorem ex_mono {a b:Rt} (v c:Int) (h:Le a b):Le (ex a v c) (ex b v c):=by
 intro h'
 refine h ?_
 rcases h' with h' | ⟨e,h' | ⟨f,h'⟩⟩
 ·exact .inl (by simp only [ex] at h'; omega)
 ·simp only [ex,List.length_append] at e h'
  exact .inr ⟨by omega,.inl (by omega)⟩
 ·simp only [ex,List.length_append] at e f h'
  have hl:b.2.length=a.2.length:=by omega
  rcases lexL_tri hl with g | g | g
  ·exact .inr ⟨by omega,.inr ⟨hl,g⟩⟩
  ·rw [g] at h'; exact (lexL_irr _ h').elim
  ·exact (lexL_irr _ (lexL_trans h' (lexL_app [v] g))).elim
theorem cmpInt (x y:Int):cmp_Compare_int x y=some (bif decide (x < y) then -1 else bif decide (y < x) then 1 else 0):=by
 unfold cmp_Compare_int cmp_isNaN_int
 simp only [call_some,decide_true,Bool.not_true,cond_false]
 cases decide (x < y) <;> cases decide (y < x) <;> rfl
theorem slCmp (a b:List Int):slices_Compare_int_int a b=some (cmpL a b):=by
 unfold slices_Compare_int_int
 rw [jp_eq]
 refine (forL_run (fun i l _=>i+l.length=a.length) (fun i l _=>some (cmpL l (b.drop i))) (fun i s hi=>?_) (fun i x l s nx hi hnx=>?_) a 0 () (by simp)).trans (by simp)
 ·simp only [List.length_nil,Nat.add_zero] at hi
  subst hi
  by_cases h:a.length < b.length
  ·rw [decide_eq_true (by omega),cond_true,List.drop_eq_getElem_cons h]; rfl
  ·rw [decide_eq_false (by omega),cond_false,List.drop_eq_nil_of_le (by omega)]; rfl
 ·by_cases h:i < b.length
  ·rw [decide_eq_false (by omega),cond_false,idx_eq h,cmpInt,call_some,List.drop_eq_getElem_cons h]
   simp only [cmpL]
   by_cases h1:x < b[i]
   ·simp [h1]
   ·by_cases h2:b[i] < x
    ·simp [h1,h2]
    ·simp only [h1,h2,decide_false,cond_false]
     exact hnx () (by simp at hi; omega)
  ·rw [decide_eq_true (by omega),cond_true,List.drop_eq_nil_of_le (by omega)]
   simp [cmpL]
theorem cmpOr3 (a b c:Int):cmp_Or_int [a,b,c]=some (bif !decide (a=0) then a else bif !decide (b=0) then b else c):=by
 unfold cmp_Or_int
 simp only [jp_eq,forL]
 by_cases h1:a=0 <;> by_cases h2:b=0 <;> by_cases h3:c=0 <;> simp [h1,h2,h3]
def drt (r:delta_route):Rt:=(r.cost,r.list)
theorem cmpR (a b:delta_route):∃ c,delta_compareRoutes a b=some c∧(c < 0 ↔ Lt (drt a) (drt b)):=by
 unfold delta_compareRoutes
 simp only [cmpInt,call_some,slCmp,cmpOr3]
 refine ⟨_,rfl,?_⟩
 unfold Lt drt
 simp only
 by_cases h1:a.cost < b.cost
 ·simp [h1]
 ·by_cases h2:b.cost < a.cost
  ·simp only [h1,h2,decide_false,decide_true,cond_false,cond_true]
   simp
   omega
  ·have e:a.cost=b.cost:=by omega
   by_cases g1:a.list.length < b.list.length
   ·simp [e,g1]
   ·by_cases g2:b.list.length < a.list.length
    ·simp [e,g1,g2]
     omega
    ·have f:a.list.length=b.list.length:=by omega
     simp [e,f,cmpL_lt f]
inductive Wk (E:Int→Int→Int→Prop) (s:Int):Int→Rt→Prop
 | nil:Wk E s s (0,[])
 | snoc {u r v c}:Wk E s u r→E u v c→Wk E s v (ex r v c)
def Opt (E:Int→Int→Int→Prop) (s v:Int) (r:Rt):Prop:=Wk E s v r∧∀ r',Wk E s v r'→Le r r'
def Ed (l:List api_Way) (sizes:List Int) (u v c:Int):Prop:=(v ≠ u∧∃ i:Nat,v=i∧sizes[i]?=some c) ∨ ∃ w ∈ l,w.From=u∧w.To=v∧w.Cost=c
structure Good (l:List api_Way) (sizes:List Int):Prop where
 n:sizes.length≤9
 m:l.length≤40
 sz:∀ c ∈ sizes,0≤c∧c≤1000000000
 wy:∀ w ∈ l,0≤w.From∧w.From < sizes.length∧0≤w.To∧w.To < sizes.length∧w.From ≠ w.To∧0≤w.Cost∧w.Cost≤1000000000
variable {l:List api_Way} {sizes:List Int}
theorem Good.ed (g:Good l sizes) {u v c:Int} (h:Ed l sizes u v c):v ≠ u∧0≤v∧v < sizes.length∧0≤c∧c≤1000000000:=by
 rcases h with ⟨h,i,rfl,hi⟩ | ⟨w,hw,rfl,rfl,rfl⟩
 ·have:=g.sz c (List.mem_of_getElem? hi)
  have hl:=(List.getElem?_eq_some_iff.1 hi).1
  exact ⟨h,by omega,by omega,this.1,this.2⟩
 ·obtain ⟨h1,h2,h3,h4,h5,h6,h7⟩:=g.wy w hw
  exact ⟨fun e=>h5 e.symm,h3,h4,h6,h7⟩
theorem Good.walk (g:Good l sizes) {s v:Int} {r:Rt} (h:Wk (Ed l sizes) s v r):0≤r.1∧r.1≤1000000000 * r.2.length∧(v=s ∨ 0≤v∧v < sizes.length):=by
 induction h with
 | nil=>simp
 | snoc h1 h2 ih =>
  have:=g.ed h2
  simp only [ex,List.length_append,List.length_cons,List.length_nil]
  refine ⟨by omega,by omega,.inr ⟨by omega,by omega⟩⟩
theorem Le_zero {r:Rt} (h:0≤r.1):Le (0,[]) r:=by
 rintro (h' | ⟨_,h' | ⟨h',h''⟩⟩)
 ·simp only at h'; omega
 ·simp at h'
 ·cases hr:r.2 with
  | nil=>rw [hr] at h''; exact h''
  | cons a b=>rw [hr] at h'; simp at h'
theorem Good.reach (g:Good l sizes) {s v:Int} (h0:0≤v) (h1:v < sizes.length):∃ r,Wk (Ed l sizes) s v r:=by
 by_cases h:v=s
 ·subst h; exact ⟨_,Wk.nil⟩
 ·have hl:v.toNat < sizes.length:=by omega
  exact ⟨_,Wk.snoc (c:=sizes[v.toNat]) Wk.nil (.inl ⟨h,v.toNat,by omega,List.getElem?_eq_getElem hl⟩)⟩
section
variable {K V:Type} [DecidableEq K]
theorem aset_ne {m:List (K × V)} {p:K × V} {k:K} {v:V} (h:¬ p.1=k):aset (p::m) k v=p::aset m k v:=by rw [aset,decide_eq_false h]; rfl
theorem aset_eq {m:List (K × V)} {p:K × V} {k:K} {v:V} (h:p.1=k):aset (p::m) k v=(k,v)::m:=by rw [aset,decide_eq_true h]; rfl
theorem alook_aset:∀ (m:List (K × V)) (k:K) (v:V) (k':K),alook (aset m k v) k'=if k=k' then some v else alook m k'
 | [],k,v,k'=>by
  simp only [aset,alook]
  by_cases h:k=k' <;> simp [h]
 | p::m,k,v,k'=>by
  unfold aset
  by_cases h:p.1=k
  ·rw [decide_eq_true h,cond_true]
   simp only [alook]
   by_cases h':k=k'
   ·simp [h']
   ·have:¬ p.1=k':=fun e=>h' (h ▸ e)
    simp [h',this]
  ·rw [decide_eq_false h,cond_false]
   simp only [alook]
   rw [alook_aset m k v k']
   by_cases h':k=k'
   ·have:¬ p.1=k':=fun e=>h (e.trans h'.symm)
    simp [h',this]
   ·simp only [if_neg h']
end
section
variable {α S β:Type}
end
theorem nodup_len:∀ (n:Nat) (l:List Int),l.Nodup→(∀ x ∈ l,0≤x∧x < n)→l.length≤n
 | 0,[],_,_=>Nat.le_refl _
 | 0,x::l,_,h=>by have:=h x (List.mem_cons_self ..); omega
 | n+1,l,hd,h=>by
  have h1:=nodup_len n (l.erase (n:Int)) (hd.erase _) (fun x hx=>by
   have hm:=(List.Nodup.mem_erase_iff hd).1 hx
   have:=h x hm.2
   have:=hm.1
   omega)
  have h2:=List.length_erase (a:=(n:Int)) (l:=l)
  split at h2 <;> omega
variable {l:List api_Way} {sizes:List Int} {s:Int}
theorem Wk.nodes (g:Good l sizes) {v:Int} {r:Rt} (h:Wk (Ed l sizes) s v r):∀ x ∈ r.2,0≤x∧x < sizes.length:=by
 induction h with
 | nil=>intro x hx; cases hx
 | snoc h1 h2 ih =>
  intro x hx
  simp only [ex,List.mem_append,List.mem_singleton] at hx
  rcases hx with hx | rfl
  ·exact ih x hx
  ·have:=g.ed h2; omega
theorem Wk.cutAt (g:Good l sizes) {v u:Int} {r:Rt} (h:Wk (Ed l sizes) s v r) (hd:r.2.Nodup) (hu:u ∈ r.2):∃ p,Wk (Ed l sizes) s u p∧p.2.Nodup∧Le p r:=by
 induction h with
 | nil=>cases hu
 | @snoc w p z c h1 h2 ih =>
  have hd':=hd
  simp only [ex] at hd hu
  have hdp:=(List.nodup_append.1 hd).1
  have hc:=(g.ed h2)
  simp only [List.mem_append,List.mem_singleton] at hu
  rcases hu with hu | rfl
  ·obtain ⟨q,hq,hqd,hql⟩:=ih hdp hu
   exact ⟨q,hq,hqd,Le_trans hql (Le_ex _ _ _ (by omega))⟩
  ·exact ⟨_,Wk.snoc h1 h2,hd',Le_refl _⟩
theorem Wk.simple (g:Good l sizes) {v:Int} {r:Rt} (h:Wk (Ed l sizes) s v r):∃ p,Wk (Ed l sizes) s v p∧p.2.Nodup∧Le p r:=by
 induction h with
 | nil=>exact ⟨_,Wk.nil,List.nodup_nil,Le_refl _⟩
 | @snoc w p z c h1 h2 ih =>
  obtain ⟨q,hq,hqd,hql⟩:=ih
  have hc:=(g.ed h2)
  by_cases hz:z ∈ q.2
  ·obtain ⟨t,ht,htd,htl⟩:=hq.cutAt g hqd hz
   exact ⟨t,ht,htd,Le_trans htl (Le_trans hql (Le_ex _ _ _ (by omega)))⟩
  ·refine ⟨_,Wk.snoc hq h2,?_,ex_mono _ _ hql⟩
   simp only [ex]
   rw [List.nodup_append]
   exact ⟨hqd,by simp,fun a ha b hb e=>by simp at hb; subst hb; subst e; exact hz ha⟩
theorem Wk.short (g:Good l sizes) {v:Int} {r:Rt} (h:Wk (Ed l sizes) s v r):∃ p,Wk (Ed l sizes) s v p∧p.2.length≤9∧Le p r:=by
 obtain ⟨p,hp,hd,hl⟩:=h.simple g
 have:=nodup_len sizes.length p.2 hd (hp.nodes g)
 have:=g.n
 exact ⟨p,hp,by omega,hl⟩
variable {l:List api_Way} {sizes:List Int} {s:Int}
abbrev RZ:delta_route:=delta_route.mk 0 [] false false
abbrev rAt (o:List delta_route) (i:Nat):delta_route:=o.getD i RZ
structure Imp1 (l:List api_Way) (sizes:List Int) (s:Int) (M:Nat) (v:Int) (x x':delta_route):Prop where
 dn:x'.done=x.done
 keep:x.done=true→x'=x
 any:x.any=true→x'.any=true∧Le (drt x') (drt x)
 wk:x'=x ∨ x'.any=true∧Wk (Ed l sizes) s v (drt x')∧x'.list.length≤M
theorem Imp1.refl (M:Nat) (v:Int) (x:delta_route):Imp1 l sizes s M v x x:=⟨rfl,fun _=>rfl,fun h=>⟨h,Le_refl _⟩,.inl rfl⟩
theorem Imp1.trans {M:Nat} {v:Int} {x y z:delta_route} (h:Imp1 l sizes s M v x y) (h':Imp1 l sizes s M v y z):Imp1 l sizes s M v x z :=
 ⟨h'.dn.trans h.dn,fun hd=>(h'.keep (h.dn.trans hd)).trans (h.keep hd),fun ha=>⟨(h'.any (h.any ha).1).1,Le_trans (h'.any (h.any ha).1).2 (h.any ha).2⟩,by
  rcases h'.wk with e | e
  ·rw [e]; exact h.wk
  ·exact .inr e⟩
structure Imp (l:List api_Way) (sizes:List Int) (s:Int) (M:Nat) (o o':List delta_route):Prop where
 len:o'.length=o.length
 at_:∀ i:Nat,i < o.length→Imp1 l sizes s M i (rAt o i) (rAt o' i)
theorem Imp.refl (M:Nat) (o:List delta_route):Imp l sizes s M o o:=⟨rfl,fun i _=>Imp1.refl M i _⟩
theorem Imp.trans {M:Nat} {a b c:List delta_route} (h:Imp l sizes s M a b) (h':Imp l sizes s M b c):Imp l sizes s M a c :=
 ⟨h'.len.trans h.len,fun i hi=>(h.at_ i hi).trans (h'.at_ i (by have:=h.len; omega))⟩
def Has (o:List delta_route) (v:Int) (b:Rt):Prop:=(rAt o v.toNat).any=true∧Le (drt (rAt o v.toNat)) b
theorem Imp.has {M:Nat} {o o':List delta_route} (h:Imp l sizes s M o o') {v:Int} {b:Rt} (h0:0≤v) (h1:v < o.length) (hh:Has o v b):Has o' v b:=by
 have:=(h.at_ v.toNat (by omega)).any
 exact ⟨(this hh.1).1,Le_trans (this hh.1).2 hh.2⟩
def Dn (l:List api_Way) (sizes:List Int) (s:Int) (o:List delta_route):Prop:=∀ i:Nat,i < o.length→(rAt o i).done=true→(rAt o i).any=true∧Opt (Ed l sizes) s i (drt (rAt o i))
theorem Imp.dnO {M:Nat} {o o':List delta_route} (h:Imp l sizes s M o o') (hd:Dn l sizes s o):Dn l sizes s o':=fun i hi hdn=>by
 have hi':i < o.length:=by have:=h.len; omega
 have h1:=h.at_ i hi'
 have h2:=h1.dn ▸ hdn
 rw [h1.keep h2]
 exact hd i hi' h2
theorem better_ok {v:Int} {r:delta_route} {o:List delta_route} (h0:0≤v) (h1:v < o.length) :
  ∃ b:Bool,delta_Best_1_i1 v r o=some (bif b then List.set o v.toNat r else o)∧(b=true→(rAt o v.toNat).any=true→Lt (drt r) (drt (rAt o v.toNat)))∧(b=false→(rAt o v.toNat).any=true∧Le (drt (rAt o v.toNat)) (drt r)):=by
 unfold delta_Best_1_i1
 rw [chk_true ⟨h0,h1⟩,chk_true (fun _=>⟨h0,h1⟩)]
 cases ha:(rAt o v.toNat).any with
 | false =>
  simp only [Bool.not_false,Bool.not_true,callG_false,Bool.true_or,cond_true]
  rw [chk_true ⟨h0,h1⟩]
  exact ⟨true,rfl,fun _ h=>(by cases h),fun h=>by cases h⟩
 | true =>
  simp only [Bool.not_false,Bool.not_true,callG_true,Bool.false_or]
  obtain ⟨c,hc,hlt⟩:=cmpR r (delta_route.mk ((o.getD v.toNat (delta_route.mk 0 [] false false)).cost) ((o.getD v.toNat (delta_route.mk 0 [] false false)).list) ((o.getD v.toNat (delta_route.mk 0 [] false false)).done) true)
  rw [hc,call_some,chk_true ⟨h0,h1⟩]
  refine ⟨decide (c < 0),by cases decide (c < 0) <;> rfl,fun h _=>hlt.1 (of_decide_eq_true h),fun h=>⟨trivial,fun h'=>?_⟩⟩
  exact of_decide_eq_false h (hlt.2 h')
theorem rAt_set (o:List delta_route) (k:Nat) (x:delta_route) (h1:k < o.length) (i:Nat):rAt (o.set k x) i=if i=k then x else rAt o i:=by
 unfold rAt
 rw [getD_set _ _ _ _ _ (by omega)]
 by_cases e:i=k
 ·rw [if_pos e,if_pos (by omega)]
 ·rw [if_neg e,if_neg (by omega)]
theorem step_ok (g:Good l sizes) {M:Nat} {o:List delta_route} {k v c:Int} {r:Rt} {d a:Bool} (hM:M≤100000) (hl:o.length=sizes.length) (hdn:Dn l sizes s o) (hr:Wk (Ed l sizes) s k r) (hrl:r.2.length+1≤M) (h0:0≤v) (h1:v < sizes.length) (he:v ≠ k→Ed l sizes k v c) :
  ∃ o',delta_Best_2_1_i1 v c k o r.1 r.2 d a=some o'∧Imp l sizes s M o o'∧(v ≠ k→Has o' v (ex r v c)):=by
 unfold delta_Best_2_1_i1
 rw [chk_true (fun _=>⟨h0,by omega⟩)]
 by_cases hk:v=k
 ·rw [decide_eq_true hk,Bool.not_true,Bool.false_and,cond_false]
  exact ⟨o,rfl,Imp.refl _ _,fun h=>(h hk).elim⟩
 have hw:Wk (Ed l sizes) s v (ex r v c):=Wk.snoc hr (he hk)
 rw [decide_eq_false hk,Bool.not_false,Bool.true_and]
 cases hd:(rAt o v.toNat).done with
 | true =>
  have hd':(o.getD v.toNat (delta_route.mk 0 [] false false)).done=true:=hd
  simp only [Bool.not_true,cond_false]
  have:=hdn v.toNat (by omega) hd
  rw [show ((v.toNat:Nat):Int)=v by omega] at this
  exact ⟨o,rfl,Imp.refl _ _,fun _=>⟨this.1,this.2.2 _ hw⟩⟩
 | false =>
  have hd':(o.getD v.toNat (delta_route.mk 0 [] false false)).done=false:=hd
  simp only [Bool.not_false,cond_true]
  have hb:=g.walk hw
  simp only [ex,List.length_append,List.length_cons,List.length_nil] at hb
  rw [chk_true ⟨by omega,by omega⟩,List.take_length,chk_true ⟨by simp only [List.length_append,List.length_cons,List.length_nil]; omega,by simp⟩,wrapS (by omega) (by omega)]
  obtain ⟨b,hb1,hb2,hb3⟩:=better_ok (v:=v) (r:=delta_route.mk (r.1+c) (r.2++[v]) false true) (o:=o) h0 (by omega)
  rw [hb1,call_some]
  have hv:v.toNat < o.length:=by omega
  cases b with
  | false =>
   obtain ⟨h2,h3⟩:=hb3 rfl
   exact ⟨o,rfl,Imp.refl _ _,fun _=>⟨h2,h3⟩⟩
  | true =>
   refine ⟨_,rfl,⟨by simp,fun i hi=>?_⟩,fun _=>?_⟩
   ·rw [cond_true,rAt_set _ _ _ hv]
    split
    ·rename_i e
     subst e
     refine ⟨hd.symm,fun h=>(by rw [hd] at h; cases h),fun h=>⟨rfl,Le_of_Lt (hb2 rfl h)⟩,.inr ⟨rfl,?_,by simp only [List.length_append,List.length_cons,List.length_nil]; omega⟩⟩
     rw [show ((v.toNat:Nat):Int)=v by omega]
     exact hw
    ·exact Imp1.refl _ _ _
   ·unfold Has
    rw [cond_true,rAt_set _ _ _ hv,if_pos rfl]
    exact ⟨rfl,Le_refl _⟩
theorem spread_ok (g:Good l sizes) {M:Nat} {o:List delta_route} {k:Int} {r:delta_route} (hM:M≤100000) (hl:o.length=sizes.length) (hdn:Dn l sizes s o) (hr:Wk (Ed l sizes) s k (drt r)) (hrl:r.list.length+1≤M) :
  Ends (delta_Best_2_i1 k r o sizes l) fun o'=>Imp l sizes s M o o'∧∀ v c,Ed l sizes k v c→Has o' v (ex (drt r) v c):=by
 unfold delta_Best_2_i1
 rw [jp_eq]
 refine forL_ex (fun q rest o'=>q+rest.length=sizes.length∧(∀ i:Nat,rest[i]?=sizes[q+i]?)∧Imp l sizes s M o o'∧∀ a:Nat,a < q→∀ c,sizes[a]?=some c→(a:Int) ≠ k→Has o' a (ex (drt r) a c)) (fun q o1 hq=>?_) (fun q n rest o1 nx hq hnx=>?_) _ _ _ ⟨by omega,fun i=>by rw [Nat.zero_add],Imp.refl _ _,fun a ha=>by omega⟩
 ·obtain ⟨hq1,_,hq3,hq4⟩:=hq
  simp only [List.length_nil,Nat.add_zero] at hq1
  dsimp only
  refine forL_ex (fun p rest o'=>(∀ w ∈ rest,w ∈ l)∧Imp l sizes s M o1 o'∧∀ w ∈ l,w.From=k→w ∈ rest ∨ Has o' w.To (ex (drt r) w.To w.Cost)) (fun p o2 hp=>?_) (fun p w rest o2 nx hp hnx=>?_) _ _ _ ⟨fun w hw=>hw,Imp.refl _ _,fun w hw _=>.inl hw⟩
  ·obtain ⟨_,hp3,hp4⟩:=hp
   refine ⟨_,rfl,hq3.trans hp3,fun v c he=>?_⟩
   have hln:=hq3.len
   rcases he with ⟨hne,a,rfl,ha⟩ | ⟨w,hw,e1,rfl,rfl⟩
   ·have:=(List.getElem?_eq_some_iff.1 ha).1
    exact hp3.has (by omega) (by omega) (hq4 a (by omega) c ha hne)
   ·rcases hp4 w hw e1 with h | h
    ·cases h
    ·exact h
  ·obtain ⟨hp5,hp3,hp4⟩:=hp
   have hwl:=hp5 w (List.mem_cons_self ..)
   have hwy:=g.wy w hwl
   have hln:=(hq3.trans hp3).len
   by_cases ew:w.From=k
   ·rw [decide_eq_true ew,cond_true]
    obtain ⟨o3,e3,hi3,hh3⟩:=step_ok (d:=r.done) (a:=r.any) g hM (o:=o2) (by omega) ((hq3.trans hp3).dnO hdn) hr hrl (v:=w.To) (c:=w.Cost) (by omega) (by omega) (fun _=>.inr ⟨w,hwl,ew,rfl,rfl⟩)
    simp only [drt] at e3
    rw [e3,call_some]
    refine hnx _ ⟨fun w' hw'=>hp5 w' (List.mem_cons_of_mem _ hw'),hp3.trans hi3,fun w' hw' ew'=>?_⟩
    by_cases eq:w'=w
    ·subst eq
     exact .inr (hh3 (by omega))
    ·rcases hp4 w' hw' ew' with h | h
     ·rcases List.mem_cons.1 h with h | h
      ·exact (eq h).elim
      ·exact .inl h
     ·have:=g.wy w' hw'
      exact .inr (hi3.has (by omega) (by omega) h)
   ·rw [decide_eq_false ew,cond_false]
    refine hnx _ ⟨fun w' hw'=>hp5 w' (List.mem_cons_of_mem _ hw'),hp3,fun w' hw' ew'=>?_⟩
    rcases hp4 w' hw' ew' with h | h
    ·rcases List.mem_cons.1 h with h | h
     ·subst h; exact (ew ew').elim
     ·exact .inl h
    ·exact .inr h
 ·obtain ⟨hq1,hq5,hq3,hq4⟩:=hq
  simp only [List.length_cons] at hq1
  have hn0:sizes[q]?=some n:=by have:=hq5 0; simpa using this.symm
  have hr5:∀ i:Nat,rest[i]?=sizes[q+1+i]?:=fun i=>by
   have:=hq5 (i+1)
   rw [List.getElem?_cons_succ] at this
   rw [this]; congr 1; omega
  have hln:=hq3.len
  obtain ⟨o3,e3,hi3,hh3⟩:=step_ok (d:=r.done) (a:=r.any) g hM (o:=o1) (by omega) (hq3.dnO hdn) hr hrl (v:=(q:Int)) (c:=n) (by omega) (by omega) (fun h=>.inl ⟨h,q,rfl,hn0⟩)
  simp only [drt] at e3
  rw [e3,call_some]
  refine hnx _ ⟨by omega,hr5,hq3.trans hi3,fun a ha c hc hne=>?_⟩
  by_cases ea:a=q
  ·subst ea
   rw [hn0] at hc
   cases hc
   exact hh3 hne
  ·exact hi3.has (by omega) (by omega) (hq4 a (by omega) c hc hne)
variable {l:List api_Way} {sizes:List Int} {s:Int}
structure DI (l:List api_Way) (sizes:List Int) (s:Int) (M:Nat) (o:List delta_route):Prop where
 len:o.length=sizes.length
 dn:Dn l sizes s o
 wk:∀ i:Nat,i < o.length→(rAt o i).any=true→Wk (Ed l sizes) s i (drt (rAt o i))∧(rAt o i).list.length≤M
 cov:∀ i:Nat,i < o.length→(rAt o i).done=true→∀ v c,Ed l sizes i v c→Has o v (ex (drt (rAt o i)) v c)
 src:if s < 0 then ∀ v c,Ed l sizes s v c→Has o v (ex (0,[]) v c) else Has o s (0,[])
def Fr (o:List delta_route) (r:Rt):Prop:=∃ i:Nat,i < o.length∧(rAt o i).any=true∧(rAt o i).done=false∧Le (drt (rAt o i)) r
theorem DI.front (g:Good l sizes) {M:Nat} {o:List delta_route} (h:DI l sizes s M o) (h3:s < sizes.length) {v:Int} {r:Rt} (hw:Wk (Ed l sizes) s v r) :
  (v=s∧s < 0∧Le (0,[]) r) ∨ (0≤v∧v < o.length∧(rAt o v.toNat).done=true∧Le (drt (rAt o v.toNat)) r) ∨ Fr o r:=by
 have hl:=h.len
 have hHas:∀ (v:Int) (b:Rt),0≤v→v < o.length→Has o v b→(0≤v∧v < o.length∧(rAt o v.toNat).done=true∧Le (drt (rAt o v.toNat)) b) ∨ Fr o b:=fun v b h0 h1 hh=>by
  cases hd:(rAt o v.toNat).done with
  | true=>exact .inl ⟨h0,h1,rfl,hh.2⟩
  | false=>exact .inr ⟨v.toNat,by omega,hh.1,hd,hh.2⟩
 induction hw with
 | nil =>
  have:=h.src
  by_cases hs:s < 0
  ·exact .inl ⟨rfl,hs,Le_refl _⟩
  ·rw [if_neg hs] at this
   exact .inr (hHas s _ (by omega) (by omega) this)
 | @snoc u p v c hw1 he ih =>
  have hc:=g.ed he
  have hst:∀ b:Rt,Le b p→Has o v (ex b v c)→(0≤v∧v < o.length∧(rAt o v.toNat).done=true∧Le (drt (rAt o v.toNat)) (ex p v c)) ∨ Fr o (ex p v c):=fun b hb hh=>by
   refine hHas v _ (by omega) (by omega) ⟨hh.1,Le_trans hh.2 (ex_mono _ _ hb)⟩
  rcases ih with ⟨rfl,hs,hle⟩ | ⟨h0,h1,hd,hle⟩ | ⟨i,hi,ha,hd,hle⟩
  ·have:=h.src
   rw [if_pos hs] at this
   exact .inr (hst _ hle (this v c he))
  ·have:=h.cov u.toNat (by omega) hd v c (by rw [show ((u.toNat:Nat):Int)=u by omega]; exact he)
   exact .inr (hst _ hle this)
  ·exact .inr (.inr ⟨i,hi,ha,hd,Le_trans hle (Le_ex _ _ _ (by omega))⟩)
theorem rAt_get {o:List delta_route} {i:Nat} (h:i < o.length):rAt o i=o[i]:=by
 unfold rAt
 rw [List.getD_eq_getElem?_getD,List.getElem?_eq_getElem h]; rfl
theorem Imp.dones {M:Nat} {o o':List delta_route} (h:Imp l sizes s M o o'):o'.map (·.done)=o.map (·.done):=by
 refine List.ext_getElem (by simp [h.len]) fun i h1 h2=>?_
 simp only [List.length_map] at h1 h2
 have:=(h.at_ i h2).dn
 rw [rAt_get h1,rAt_get h2] at this
 simpa using this
def todo (o:List delta_route):Nat:=(o.map (·.done)).count false
theorem todo_set {o:List delta_route} {i:Nat} {x:delta_route} (h:i < o.length) (hd:(rAt o i).done=false) (hx:x.done=true):todo (o.set i x)+1=todo o:=by
 unfold todo
 rw [List.map_set,List.count_set (by simpa using h)]
 have e:(o.map (·.done))[i]'(by simpa using h)=false:=by
  rw [rAt_get h] at hd
  simpa using hd
 have hp:0 < (o.map (·.done)).count false:=List.count_pos_iff.2 (e ▸ List.getElem_mem _)
 rw [e,hx]
 simp
 omega
theorem Wk.ge (g:Good l sizes) {v:Int} {r:Rt} (h:Wk (Ed l sizes) s v r):Le (0,[]) r:=Le_zero (g.walk h).1
theorem delta_Best_ok (g:Good l sizes) {to:Int} (hcw:delta_CheckWays l sizes=some 0) (h0:0≤to) (h1:to < sizes.length) (h2:-1≤s) (h3:s < sizes.length) :
  Ends (delta_Best l sizes s to) fun z=>z.2.2=0∧Opt (Ed l sizes) s to (z.2.1,z.1):=by
 have hn:=g.n
 unfold delta_Best
 rw [hcw,call_some,decide_eq_true rfl,Bool.not_true,cond_false,letv_eq,wrapS (by omega) (by omega)]
 unfold delta_outside
 rw [decide_eq_false (by omega),decide_eq_false (by omega),decide_eq_false (by omega),decide_eq_false (by omega)]
 simp only [Bool.or_false,call_some,Bool.not_false,callG_true,cond_false]
 rw [chk_true (by omega),letv_eq,jp_eq]
 have hrep:∀ i,rAt (List.replicate sizes.length RZ) i=RZ:=fun i=>by
  unfold rAt
  simp only [List.getD_eq_getElem?_getD,List.getElem?_replicate]
  split <;> rfl
 have hdn0:Dn l sizes s (List.replicate sizes.length RZ):=fun i hi hd=>by rw [hrep] at hd; cases hd
 have htodo0:todo (List.replicate sizes.length RZ)=sizes.length:=by
  unfold todo
  rw [List.map_replicate]
  exact List.count_replicate_self
 have main:∀ o,DI l sizes s 1 o→todo o=sizes.length→Ends (loopN Fuel (fun o2_160 nx_302 k_301=>jp (S:=Int) (fun best_363 =>
    bif ((decide (best_363 < 0)) || (decide (best_363=to))) then
     chk (0≤to∧to < (o2_160.length:Int)) <|
     letv ((o2_160.getD to.toNat (delta_route.mk 0 [] false false)).list) fun v_366 =>
     chk (0≤to∧to < (o2_160.length:Int)) <|
     letv ((o2_160.getD to.toNat (delta_route.mk 0 [] false false)).cost) fun v_369 =>
     some (v_366,v_369,0)
    else
    chk (0≤best_363∧best_363 < (o2_160.length:Int)) <|
    letv (List.set o2_160 best_363.toNat (delta_route.mk ((o2_160.getD best_363.toNat (delta_route.mk 0 [] false false)).cost) ((o2_160.getD best_363.toNat (delta_route.mk 0 [] false false)).list) true ((o2_160.getD best_363.toNat (delta_route.mk 0 [] false false)).any))) fun v_373 =>
    chk (0≤best_363∧best_363 < (v_373.length:Int)) <|
    letv ((v_373.getD best_363.toNat (delta_route.mk 0 [] false false)).cost) fun v_377 =>
    letv ((v_373.getD best_363.toNat (delta_route.mk 0 [] false false)).list) fun v_379 =>
    call (delta_Best_2_i1 best_363 (delta_route.mk v_377 v_379 ((v_373.getD best_363.toNat (delta_route.mk 0 [] false false)).done) ((v_373.getD best_363.toNat (delta_route.mk 0 [] false false)).any)) v_373 sizes l) fun r_381 =>
    nx_302 r_381) fun k_364 =>
   forC o2_160.length 0 (fun i_414 best_383 nx_413 k_412 =>
    letv ((o2_160.getD i_414 (delta_route.mk 0 [] false false)).cost) fun v_417 =>
    letv ((o2_160.getD i_414 (delta_route.mk 0 [] false false)).list) fun v_419 =>
    chk (((((o2_160.getD i_414 (delta_route.mk 0 [] false false)).any) && (!((o2_160.getD i_414 (delta_route.mk 0 [] false false)).done))) && (!(decide (best_383 < 0))))=true→(0≤best_383∧best_383 < (o2_160.length:Int))) <|
    letv ((o2_160.getD best_383.toNat (delta_route.mk 0 [] false false)).cost) fun v_423 =>
    letv ((o2_160.getD best_383.toNat (delta_route.mk 0 [] false false)).list) fun v_425 =>
    callG ((((o2_160.getD i_414 (delta_route.mk 0 [] false false)).any) && (!((o2_160.getD i_414 (delta_route.mk 0 [] false false)).done))) && (!(decide (best_383 < 0)))) (delta_compareRoutes (delta_route.mk v_417 v_419 ((o2_160.getD i_414 (delta_route.mk 0 [] false false)).done) ((o2_160.getD i_414 (delta_route.mk 0 [] false false)).any)) (delta_route.mk v_423 v_425 ((o2_160.getD best_383.toNat (delta_route.mk 0 [] false false)).done) ((o2_160.getD best_383.toNat (delta_route.mk 0 [] false false)).any))) 0 fun r_427 =>
    bif ((((o2_160.getD i_414 (delta_route.mk 0 [] false false)).any) && (!((o2_160.getD i_414 (delta_route.mk 0 [] false false)).done))) && ((decide (best_383 < 0)) || (decide (r_427 < 0)))) then
     nx_413 (i_414:Int)
    else
    nx_413 best_383) (-1) (fun best_383 =>
    k_364 best_383)) o (fun o2_160 =>
   none)) fun z:List Int × Int × Int=>z.2.2=0∧Opt (Ed l sizes) s to (z.2.1,z.1):=by
  intro o hdi htd
  refine loopN_exJ (fun j o=>j≤20∧todo o+1≤j∧10≤20 - j+10∧DI l sizes s (21 - j) o) ?_ 20 o ⟨by omega,by omega,by omega,by simpa using hdi⟩ (by omega)
  rintro j o nx ⟨hj,htd,_,hdi⟩ hnx
  have hl:=hdi.len
  have hend:(∀ r,Wk (Ed l sizes) s to r→(0≤to∧to < o.length∧(rAt o to.toNat).done=true∧Le (drt (rAt o to.toNat)) r) ∨ ((rAt o to.toNat).any=true∧Le (drt (rAt o to.toNat)) r)) →
    Ends (chk (0≤to∧to < (o.length:Int)) <| letv ((o.getD to.toNat (delta_route.mk 0 [] false false)).list) fun v_366=>chk (0≤to∧to < (o.length:Int)) <| letv ((o.getD to.toNat (delta_route.mk 0 [] false false)).cost) fun v_369=>some (v_366,v_369,0)) fun z:List Int × Int × Int=>z.2.2=0∧Opt (Ed l sizes) s to (z.2.1,z.1):=by
   intro hall
   rw [chk_true ⟨h0,by omega⟩,letv_eq,chk_true ⟨h0,by omega⟩,letv_eq]
   have hle:∀ r,Wk (Ed l sizes) s to r→Le (drt (rAt o to.toNat)) r:=fun r hr=>by
    rcases hall r hr with h | h
    ·exact h.2.2.2
    ·exact h.2
   have hany:(rAt o to.toNat).any=true:=by
    obtain ⟨r,hr⟩:=g.reach (s:=s) h0 h1
    rcases hall r hr with h | h
    ·exact (hdi.dn to.toNat (by omega) h.2.2.1).1
    ·exact h.1
   have hw:=(hdi.wk to.toNat (by omega) hany).1
   rw [show ((to.toNat:Nat):Int)=to by omega] at hw
   exact ⟨_,rfl,rfl,hw,hle⟩
  rw [jp_eq]
  refine forC_ex o.length (fun i (best:Int)=>(best=-1∧∀ a:Nat,a < i→(rAt o a).any=true→(rAt o a).done=true) ∨ ∃ b:Nat,best=b∧b < i∧(rAt o b).any=true∧(rAt o b).done=false∧∀ a:Nat,a < i→(rAt o a).any=true→(rAt o a).done=false→Le (drt (rAt o b)) (drt (rAt o a))) (fun best hb=>?_) (fun i best nx1 hi hb hnx1=>?_) _ _ _ (by omega) (.inl ⟨rfl,fun a ha=>by omega⟩)
  ·rcases hb with ⟨rfl,hb⟩ | ⟨b,rfl,hbl,hba,hbd,hbm⟩
   ·dsimp only
    rw [decide_eq_true (by omega),Bool.true_or,cond_true]
    refine hend fun r hr=>?_
    rcases hdi.front g h3 hr with ⟨rfl,hs,_⟩ | h | ⟨i,hi,ha,hd,_⟩
    ·omega
    ·exact .inl h
    ·rw [hb i hi ha] at hd; cases hd
   ·dsimp only
    by_cases hto:(b:Int)=to
    ·rw [decide_eq_true hto,Bool.or_true,cond_true]
     have hbt:b=to.toNat:=by omega
     refine hend fun r hr=>?_
     rcases hdi.front g h3 hr with ⟨rfl,hs,_⟩ | h | ⟨i,hi,ha,hd,hle⟩
     ·omega
     ·exact .inl h
     ·exact .inr ⟨hbt ▸ hba,hbt ▸ Le_trans (hbm i hi ha hd) hle⟩
    ·rw [decide_eq_false (by omega),decide_eq_false hto,Bool.or_false,cond_false,chk_true ⟨by omega,by omega⟩,letv_eq]
     simp only [Int.toNat_natCast]
     rw [chk_true ⟨by omega,by simp only [List.length_set]; omega⟩,letv_eq,letv_eq]
     have hopt:Opt (Ed l sizes) s b (drt (rAt o b)):=⟨(hdi.wk b hbl hba).1,fun r hr=>by
      rcases hdi.front g h3 hr with ⟨e,hs,_⟩ | ⟨_,_,h,_⟩ | ⟨i,hi,ha,hd,hle⟩
      ·omega
      ·simp only [Int.toNat_natCast] at h
       rw [hbd] at h; cases h
      ·exact Le_trans (hbm i hi ha hd) hle⟩
     generalize ho1:List.set o b (delta_route.mk ((o.getD b (delta_route.mk 0 [] false false)).cost) ((o.getD b (delta_route.mk 0 [] false false)).list) true ((o.getD b (delta_route.mk 0 [] false false)).any))=o1
     have hr1:∀ i,rAt o1 i=if i=b then delta_route.mk (rAt o b).cost (rAt o b).list true (rAt o b).any else rAt o i:=fun i=>by
      rw [← ho1,rAt_set _ _ _ hbl]
     have hl1:o1.length=o.length:=by rw [← ho1,List.length_set]
     have hdr:∀ i,drt (rAt o1 i)=drt (rAt o i):=fun i=>by
      rw [hr1]; split
      ·rename_i e; subst e; rfl
      ·rfl
     have hany:∀ i,(rAt o1 i).any=(rAt o i).any:=fun i=>by
      rw [hr1]; split
      ·rename_i e; subst e; rfl
      ·rfl
     have hlst:∀ i,(rAt o1 i).list=(rAt o i).list:=fun i=>congrArg Prod.snd (hdr i)
     have hdone:∀ i,(rAt o1 i).done=true→i=b ∨ (rAt o i).done=true:=fun i h=>by
      rw [hr1] at h; split at h
      ·rename_i e; exact .inl e
      ·exact .inr h
     have hhas:∀ (v:Int) (b:Rt),Has o v b→Has o1 v b:=fun v b h=>by unfold Has; rw [hany,hdr]; exact h
     have hdn1:Dn l sizes s o1:=fun i hi hd=>by
      rw [hany,hdr]
      rcases hdone i hd with rfl | h
      ·exact ⟨hba,hopt⟩
      ·exact hdi.dn i (by omega) h
     have hrb:delta_route.mk ((o1.getD b (delta_route.mk 0 [] false false)).cost) ((o1.getD b (delta_route.mk 0 [] false false)).list) ((o1.getD b (delta_route.mk 0 [] false false)).done) ((o1.getD b (delta_route.mk 0 [] false false)).any)=rAt o1 b:=rfl
     rw [hrb]
     have hwb:=hdi.wk b hbl hba
     refine Ends.call (spread_ok (s:=s) (M:=22 - j) g (by omega) (by omega) hdn1 (k:=(b:Int)) (r:=rAt o1 b) (by rw [hdr]; exact hwb.1) (by rw [hlst]; omega)) fun o2 ho2=>?_
     obtain ⟨him,hcv⟩:=ho2
     have htd1:=todo_set (x:=delta_route.mk ((o.getD b (delta_route.mk 0 [] false false)).cost) ((o.getD b (delta_route.mk 0 [] false false)).list) true ((o.getD b (delta_route.mk 0 [] false false)).any)) hbl hbd rfl
     rw [ho1] at htd1
     have htd2:todo o2=todo o1:=by unfold todo; rw [him.dones]
     have hl2:=him.len
     refine hnx (j - 1) _ (by omega) ⟨by omega,by omega,by omega,by omega,him.dnO hdn1,fun i hi ha=>?_,fun i hi hd v c he=>?_,?_⟩
     ·have h4:=(him.at_ i (by omega)).wk
      rcases h4 with e | h4
      ·rw [e] at ha ⊢
       rw [hany] at ha
       rw [hdr,hlst]
       have:=hdi.wk i (by omega) ha
       exact ⟨this.1,by omega⟩
      ·exact ⟨h4.2.1,by omega⟩
     ·have h4:=him.at_ i (by omega)
      have hd1:(rAt o1 i).done=true:=h4.dn ▸ hd
      rw [h4.keep hd1]
      have hc:=g.ed he
      rcases hdone i hd1 with rfl | h
      ·exact hcv v c he
      ·refine him.has (by omega) (by omega) (hhas _ _ ?_)
       rw [hdr]
       exact hdi.cov i (by omega) h v c he
     ·have:=hdi.src
      by_cases hs:s < 0
      ·rw [if_pos hs] at this ⊢
       intro v c he
       have hc:=g.ed he
       exact him.has (by omega) (by omega) (hhas _ _ (this v c he))
      ·rw [if_neg hs] at this ⊢
       exact him.has (by omega) (by omega) (hhas _ _ this)
  ·rw [letv_eq,letv_eq]
   have hcond:((o.getD i (delta_route.mk 0 [] false false)).any && !(o.getD i (delta_route.mk 0 [] false false)).done)=((rAt o i).any && !(rAt o i).done):=rfl
   rw [hcond]
   cases hA:((rAt o i).any && !(rAt o i).done) with
   | false =>
    have hA':(rAt o i).any=true→(rAt o i).done=true:=fun h=>by
     rw [h] at hA
     cases hd:(rAt o i).done with
     | true=>rfl
     | false=>rw [hd] at hA; cases hA
    rw [Bool.false_and,chk_true (by intro h; cases h),letv_eq,letv_eq,callG_false,Bool.false_and,cond_false]
    refine hnx1 _ ?_
    rcases hb with ⟨rfl,hb⟩ | ⟨b,rfl,hbl,hba,hbd,hbm⟩
    ·refine .inl ⟨rfl,fun a ha=>?_⟩
     by_cases e:a=i
     ·subst e; exact hA'
     ·exact hb a (by omega)
    ·refine .inr ⟨b,rfl,by omega,hba,hbd,fun a ha h1 h2=>?_⟩
     by_cases e:a=i
     ·subst e; rw [hA' h1] at h2; cases h2
     ·exact hbm a (by omega) h1 h2
   | true =>
    simp only [Bool.and_eq_true,Bool.not_eq_true'] at hA
    rcases hb with ⟨rfl,hb⟩ | ⟨b,rfl,hbl,hba,hbd,hbm⟩
    ·rw [decide_eq_true (by omega),Bool.not_true,Bool.true_and,chk_true (by intro h; cases h),letv_eq,letv_eq,callG_false,Bool.true_or,Bool.true_and,cond_true]
     refine hnx1 _ (.inr ⟨i,rfl,by omega,hA.1,hA.2,fun a ha h1 h2=>?_⟩)
     by_cases e:a=i
     ·subst e; exact Le_refl _
     ·rw [hb a (by omega) h1] at h2; cases h2
    ·rw [decide_eq_false (by omega),Bool.not_false,Bool.true_and,chk_true (fun _=>⟨by omega,by omega⟩),letv_eq,letv_eq,callG_true]
     simp only [Int.toNat_natCast,Bool.false_or,Bool.true_and]
     obtain ⟨c,hc,hlt⟩:=cmpR (rAt o i) (rAt o b)
     have hc':delta_compareRoutes (delta_route.mk ((o.getD i (delta_route.mk 0 [] false false)).cost) ((o.getD i (delta_route.mk 0 [] false false)).list) ((o.getD i (delta_route.mk 0 [] false false)).done) ((o.getD i (delta_route.mk 0 [] false false)).any)) (delta_route.mk ((o.getD b (delta_route.mk 0 [] false false)).cost) ((o.getD b (delta_route.mk 0 [] false false)).list) ((o.getD b (delta_route.mk 0 [] false false)).done) ((o.getD b (delta_route.mk 0 [] false false)).any))=some c:=hc
     rw [hc',call_some]
     by_cases hcl:c < 0
     ·rw [decide_eq_true hcl,cond_true]
      have hl2:=hlt.1 hcl
      refine hnx1 _ (.inr ⟨i,rfl,by omega,hA.1,hA.2,fun a ha h1 h2=>?_⟩)
      by_cases e:a=i
      ·subst e; exact Le_refl _
      ·exact Le_trans (Le_of_Lt hl2) (hbm a (by omega) h1 h2)
     ·rw [decide_eq_false hcl,cond_false]
      refine hnx1 _ (.inr ⟨b,rfl,by omega,hba,hbd,fun a ha h1 h2=>?_⟩)
      by_cases e:a=i
      ·subst e; exact fun h=>hcl (hlt.2 h)
      ·exact hbm a (by omega) h1 h2
 by_cases hs:s < 0
 ·obtain rfl:s=-1:=by omega
  rw [decide_eq_true hs,cond_true]
  refine Ends.call (spread_ok (s:=-1) (M:=1) (k:=-1) (r:=RZ) g (by omega) (by simp) hdn0 Wk.nil (by simp)) fun o1 ho1=>?_
  obtain ⟨him,hcv⟩:=ho1
  have hl1:=him.len
  simp only [List.length_replicate] at hl1
  refine main o1 ⟨hl1,him.dnO hdn0,fun i hi ha=>?_,fun i hi hd=>?_,?_⟩ (by unfold todo; rw [him.dones]; exact htodo0)
  ·rcases (him.at_ i (by simp; omega)).wk with e | e
   ·rw [e,hrep] at ha; cases ha
   ·exact e.2
  ·have:=(him.at_ i (by simp; omega)).dn
   rw [hrep] at this
   rw [this] at hd; cases hd
  ·rw [if_pos hs]; exact hcv
 ·rw [decide_eq_false hs,cond_false,chk_true (by simp only [List.length_replicate]; omega),letv_eq]
  have hlr:s.toNat < (List.replicate sizes.length RZ).length:=by simp; omega
  have hr1:∀ i,rAt ((List.replicate sizes.length RZ).set s.toNat (delta_route.mk (((List.replicate sizes.length RZ).getD s.toNat (delta_route.mk 0 [] false false)).cost) (((List.replicate sizes.length RZ).getD s.toNat (delta_route.mk 0 [] false false)).list) (((List.replicate sizes.length RZ).getD s.toNat (delta_route.mk 0 [] false false)).done) true)) i=if i=s.toNat then delta_route.mk 0 [] false true else RZ:=fun i=>by
   rw [rAt_set _ _ _ hlr]
   have:=hrep s.toNat
   unfold rAt at this
   rw [this,hrep]
  refine main _ ⟨by simp,fun i hi hd=>?_,fun i hi ha=>?_,fun i hi hd=>?_,?_⟩ ?_
  ·rw [hr1] at hd
   split at hd <;> cases hd
  ·rw [hr1] at ha ⊢
   split at ha
   ·rename_i e
    rw [if_pos e]
    rw [show ((i:Nat):Int)=s by omega]
    exact ⟨Wk.nil,by simp⟩
   ·cases ha
  ·rw [hr1] at hd
   split at hd <;> cases hd
  ·rw [if_neg hs]
   unfold Has
   rw [hr1,if_pos rfl]
   exact ⟨rfl,Le_refl _⟩
  ·unfold todo
   have hm:∀ x:delta_route,x.done=false→((List.replicate sizes.length RZ).set s.toNat x).map (·.done)=(List.replicate sizes.length RZ).map (·.done):=fun x hx=>by
    refine List.ext_getElem (by simp) fun i h1 h2=>?_
    simp only [List.getElem_map,List.getElem_set,List.getElem_replicate]
    split
    ·exact hx
    ·rfl
   rw [hm _ (by have:=hrep s.toNat; unfold rAt at this; simp only [this])]
   exact htodo0
def firstE {α Z:Type} (er:α→Int) (z:Int→Option Z):List α→Option Z→Option Z
 | [],m=>m
 | x::l,m=>bif !decide (er x=0) then z (er x) else firstE er z l m
theorem forL_err {α Z:Type} {f:Nat→α→Unit→(Unit→Option Z)→(Unit→Option Z)→Option Z} {k:Unit→Option Z} (er:α→Int) (z:Int→Option Z) (P:α→Prop)
  (hf:∀ i x s nx k,P x→f i x s nx k=bif !decide (er x=0) then z (er x) else nx ()):∀ (l:List α) (i:Nat),(∀ x ∈ l,P x)→forL l i f () k=firstE er z l (k ())
 | [],_,_=>rfl
 | x::l,i,h=>by
  unfold forL firstE
  rw [hf _ _ _ _ _ (h x (List.mem_cons_self ..)),forL_err er z P hf l (i+1) fun y hy=>h y (List.mem_cons_of_mem _ hy)]
def sErr (c:Int):Int:=bif decide (c < 0) || decide (1000000000 < c) then 3 else 0
def wErr (n:Nat) (w:api_Way):Int :=
 bif ((decide (w.From < 0) || decide ((n:Int)≤w.From)) || decide (w.To < 0)) || decide ((n:Int)≤w.To) then 10 else bif decide (w.From=w.To) then 2 else bif decide (w.Cost < 0) || decide (1000000000 < w.Cost) then 3 else 0
variable {l:List api_Way} {sizes:List Int}
theorem D_ways_eq (hm:l.length≤40) (hn:sizes.length≤9):delta_CheckWays l sizes=firstE sErr some sizes (firstE (wErr sizes.length) some l (some 0)):=by
 unfold delta_CheckWays
 rw [decide_eq_false (by omega),decide_eq_false (by omega),Bool.or_false,cond_false,jp_eq]
 refine (forL_err sErr some (fun _=>True) (fun i x s nx k _=>?_) sizes 0 fun _ _=>trivial).trans ?_
 ·unfold sErr delta_outside
  rw [call_some]
  cases decide (x < 0) || decide (1000000000 < x) <;> rfl
 ·dsimp only
  rw [jp_eq]
  congr 1
  refine (forL_err (wErr sizes.length) some (fun _=>True) (fun i x s nx k _=>?_) l 0 fun _ _=>trivial).trans rfl
  unfold wErr delta_outside
  rw [wrapS (by omega) (by omega)]
  have h1:decide ((sizes.length:Int) - 1 < x.From)=decide ((sizes.length:Int)≤x.From):=by congr 1; simp; omega
  have h2:decide ((sizes.length:Int) - 1 < x.To)=decide ((sizes.length:Int)≤x.To):=by congr 1; simp; omega
  rw [h1,h2]
  generalize decide (x.From < 0)=a
  generalize decide ((sizes.length:Int)≤x.From)=b
  generalize decide (x.To < 0)=c
  generalize decide ((sizes.length:Int)≤x.To)=d
  generalize (decide (x.Cost < 0) || decide (1000000000 < x.Cost))=e
  cases a <;> cases b <;> cases c <;> cases d <;> cases decide (x.From=x.To) <;> cases e <;> rfl
def wsum (f:Int→Int→Int):Int→Int→List Int→Int × Int
 | u,c,[]=>(u,c)
 | u,c,v::l=>wsum f v (c+f u v) l
def Pth (n:Int):Int→List Int→Prop
 | _,[]=>True
 | u,v::l=>v ≠ u∧0≤v∧v < n∧Pth n v l
theorem wsum_snoc (f:Int→Int→Int) (v:Int):∀ (l:List Int) (u c:Int),wsum f u c (l++[v])=(v,(wsum f u c l).2+f (wsum f u c l).1 v)
 | [],_,_=>rfl
 | x::l,u,c=>by
  simp only [List.cons_append,wsum]
  exact wsum_snoc f v l x _
theorem Pth_snoc {n:Int} (f:Int→Int→Int) (v:Int):∀ (l:List Int) (u c:Int),Pth n u l→v ≠ (wsum f u c l).1→0≤v→v < n→Pth n u (l++[v])
 | [],u,c,_,h1,h2,h3=>⟨h1,h2,h3,trivial⟩
 | x::l,u,c,h,h1,h2,h3=>by
  simp only [List.cons_append,Pth]
  exact ⟨h.1,h.2.1,h.2.2.1,Pth_snoc f v l x _ h.2.2.2 h1 h2 h3⟩
theorem wsum_ge {f:Int→Int→Int} (hf:∀ u v,0≤f u v):∀ (l:List Int) (u c:Int),c≤(wsum f u c l).2
 | [],_,_=>Int.le_refl _
 | x::l,u,c=>by
  have:=wsum_ge hf l x (c+f u x)
  have:=hf u x
  simp only [wsum]; omega
variable {l:List api_Way} {sizes:List Int} {s:Int}
theorem Wk.path {f:Int→Int→Int} (g:Good l sizes) (h0:0≤s) (h1:s < sizes.length) (hf:∀ u v c:Int,0≤u→u < sizes.length→Ed l sizes u v c→f u v≤c∧Ed l sizes u v (f u v)) {v:Int} {r:Rt} (h:Wk (Ed l sizes) s v r) :
  Pth sizes.length s r.2∧(wsum f s 0 r.2).1=v∧(wsum f s 0 r.2).2≤r.1∧Wk (Ed l sizes) s v ((wsum f s 0 r.2).2,r.2):=by
 induction h with
 | nil=>exact ⟨trivial,rfl,Int.le_refl _,.nil⟩
 | @snoc u r v c h1' h2 ih =>
  have hu:=(g.walk h1').2.2
  obtain ⟨i1,i2,i3,i4⟩:=ih
  obtain ⟨e1,e2,e3,e4,e5⟩:=g.ed h2
  obtain ⟨f1,f2⟩:=hf u v c (by omega) (by omega) h2
  simp only [ex]
  rw [wsum_snoc,i2]
  refine ⟨Pth_snoc f v _ s 0 i1 (by rw [i2]; exact e1) e2 e3,rfl,by simp only; omega,?_⟩
  exact .snoc i4 f2
theorem Opt.path {f:Int→Int→Int} (g:Good l sizes) (h0:0≤s) (h3:s < sizes.length) (hf:∀ u v c:Int,0≤u→u < sizes.length→Ed l sizes u v c→f u v≤c∧Ed l sizes u v (f u v)) {v:Int} {r:Rt} (h:Opt (Ed l sizes) s v r) :
  Pth sizes.length s r.2∧wsum f s 0 r.2=(v,r.1)∧r.1≤9000000000:=by
 obtain ⟨h1,h2⟩:=h
 obtain ⟨p1,p2,p3,p4⟩:=h1.path g h0 h3 hf
 have hle:=h2 _ p4
 have hge:r.1≤(wsum f s 0 r.2).2:=by
  apply Int.not_lt.1
  intro hlt
  exact hle (.inl hlt)
 refine ⟨p1,Prod.ext p2 (by simp only; omega),?_⟩
 obtain ⟨p,q1,q2,q3⟩:=h1.short g
 have:=(g.walk q1).2.1
 have hle2:=h2 _ q1
 apply Int.not_lt.1
 intro hlt
 exact hle2 (.inl (by omega))
theorem ways_ok (g:Good l sizes):delta_CheckWays l sizes=some 0:=by
 rw [D_ways_eq g.m g.n]
 have h1:∀ (L:List Int) (m:Option Int),(∀ c ∈ L,0≤c∧c≤1000000000)→firstE sErr some L m=m:=by
  intro L
  induction L with
  | nil=>intro m _; rfl
  | cons c L ih =>
   intro m h
   have hc:=h c (by simp)
   unfold firstE
   have:sErr c=0:=by
    unfold sErr
    rw [decide_eq_false (by omega),decide_eq_false (by omega)]; rfl
   rw [this]
   exact ih m fun x hx=>h x (by simp [hx])
 rw [h1 sizes _ g.sz]
 have h2:∀ (L:List api_Way),(∀ w ∈ L,wErr sizes.length w=0)→firstE (wErr sizes.length) some L (some 0)=some 0:=by
  intro L
  induction L with
  | nil=>intro _; rfl
  | cons w L ih =>
   intro h
   unfold firstE
   rw [h w (by simp)]
   exact ih fun x hx=>h x (by simp [hx])
 refine h2 l fun w hw=>?_
 obtain ⟨a1,a2,a3,a4,a5,a6,a7⟩:=g.wy w hw
 unfold wErr
 rw [decide_eq_false (by omega),decide_eq_false (by omega),decide_eq_false (by omega),decide_eq_false (by omega),decide_eq_false a5,decide_eq_false (by omega),decide_eq_false (by omega)]
 rfl
theorem aset_len {K V:Type} [DecidableEq K]:∀ (m:List (K × V)) (k:K) (v:V),(aset m k v).length≤m.length+1
 | [],k,v=>by simp [aset]
 | p::m,k,v=>by
  have:=aset_len m k v
  by_cases h:p.1=k
  ·rw [aset_eq h]; simp
  ·rw [aset_ne h]; simp only [List.length_cons]; omega
section
variable (ws:List Str)
def atW (i:Nat):Str:=ws.getD i []
def cst (i j:Nat):Int:=((printS (mkD (atW ws i) (atW ws j))).length:Int)
def szW:List Int:=ws.map fun s=>(s.length:Int)+40
def fW (u v:Int):Int:=min (cst ws u.toNat v.toNat) (((atW ws v.toNat).length:Int)+40)
abbrev DM2:=List (Arr2_Int × api_Delta)
structure Dn2 (a b:Nat) (m:DM2) (l:List api_Way):Prop where
 all:∀ i j,i < ws.length→j < ws.length→i ≠ j→(i < a ∨ i=a∧j < b)→alook m (Arr2_Int.mk (i:Int) (j:Int))=some (mkD (atW ws i) (atW ws j))∧api_Way.mk (i:Int) (j:Int) (cst ws i j) ∈ l
 ok:∀ w ∈ l,∃ i j:Nat,i < ws.length∧j < ws.length∧i ≠ j∧w=api_Way.mk (i:Int) (j:Int) (cst ws i j)
 few:l.length≤a * ws.length+b∧m.length≤a * ws.length+b
end
variable {ws:List Str}
theorem Dn2.start:Dn2 ws 0 0 [] []:=⟨fun i j _ _ _ h=>by omega,fun w hw=>by simp at hw,by simp⟩
theorem Dn2.row {a:Nat} {m:DM2} {l:List api_Way} (h:Dn2 ws a ws.length m l):Dn2 ws (a+1) 0 m l :=
 ⟨fun i j h1 h2 h3 h4=>h.all i j h1 h2 h3 (by omega),h.ok,by have:=h.few; rw [Nat.add_mul]; omega⟩
theorem Dn2.same {a:Nat} {m:DM2} {l:List api_Way} (h:Dn2 ws a a m l):Dn2 ws a (a+1) m l :=
 ⟨fun i j h1 h2 h3 h4=>h.all i j h1 h2 h3 (by omega),h.ok,by have:=h.few; omega⟩
theorem Dn2.next {a b:Nat} {m:DM2} {l:List api_Way} (h:Dn2 ws a b m l) (ha:a < ws.length) (hb:b < ws.length) (hab:a ≠ b) :
  Dn2 ws a (b+1) (aset m (Arr2_Int.mk (a:Int) (b:Int)) (mkD (atW ws a) (atW ws b))) (l++[api_Way.mk (a:Int) (b:Int) (cst ws a b)]):=by
 refine ⟨fun i j h1 h2 h3 h4=>?_,fun w hw=>?_,?_⟩
 ·rw [alook_aset]
  by_cases e:(Arr2_Int.mk (a:Int) (b:Int))=Arr2_Int.mk (i:Int) (j:Int)
  ·injection e with e1 e2
   obtain rfl:a=i:=by omega
   obtain rfl:b=j:=by omega
   rw [if_pos rfl]
   exact ⟨rfl,by simp⟩
  ·rw [if_neg e]
   have hlt:i < a ∨ i=a∧j < b:=by
    rcases h4 with h4 | ⟨rfl,h4⟩
    ·exact .inl h4
    ·rcases Nat.lt_or_ge j b with h5 | h5
     ·exact .inr ⟨rfl,h5⟩
     ·obtain rfl:j=b:=by omega
      exact absurd rfl e
   have:=h.all i j h1 h2 h3 hlt
   exact ⟨this.1,by simp [this.2]⟩
 ·rcases List.mem_append.1 hw with hw | hw
  ·exact h.ok w hw
  ·rw [List.mem_singleton] at hw
   exact ⟨a,b,ha,hb,hab,hw⟩
 ·have:=h.few
  have:=aset_len m (Arr2_Int.mk (a:Int) (b:Int)) (mkD (atW ws a) (atW ws b))
  rw [List.length_append]
  simp only [List.length_cons,List.length_nil]
  omega
section
variable (hw:∀ s ∈ ws,s.length≤400) (hn:ws.length≤5)
include hw hn
theorem atW_le (i:Nat):(atW ws i).length≤400:=by
 unfold atW
 rw [List.getD_eq_getElem?_getD]
 by_cases h:i < ws.length
 ·rw [List.getElem?_eq_getElem h]; exact hw _ (List.getElem_mem h)
 ·rw [List.getElem?_eq_none (by omega)]; simp
theorem cst_ok (i j:Nat):0≤cst ws i j∧cst ws i j≤1000000000:=by
 have ok:=mkD_ok (a:=atW ws i) (b:=atW ws j) (by have:=atW_le hw hn i; omega) (by have:=atW_le hw hn j; omega)
 obtain ⟨t1,t2⟩:=ok.tot
 obtain ⟨m1,m2,m3⟩:=tot_mem (mkD (atW ws i) (atW ws j)).Pieces fun p hp=>(ok.pok p hp).1
 have h1:=headS_len (mkD (atW ws i) (atW ws j))
 have h2:=(de_ok ok.ok).2.2.2.2.2.2.1
 unfold cst printS bodyS
 simp only [List.length_append,raw8_len]
 omega
theorem good_td {m:DM2} {l:List api_Way} (h:Dn2 ws ws.length 0 m l):Good l (szW ws):=by
 have hl:(szW ws).length=ws.length:=by simp [szW]
 have hq:ws.length * ws.length≤5 * 5:=Nat.mul_le_mul hn hn
 refine ⟨by omega,by have:=h.few.1; omega,fun c hc=>?_,fun w hww=>?_⟩
 ·obtain ⟨s,hs,rfl⟩:=List.mem_map.1 hc
  have:=hw s hs
  omega
 ·obtain ⟨i,j,h1,h2,h3,rfl⟩:=h.ok w hww
  have:=cst_ok hw hn i j
  dsimp only
  rw [hl]
  omega
theorem f_ok {m:DM2} {l:List api_Way} (h:Dn2 ws ws.length 0 m l):∀ u v c:Int,0≤u→u < (szW ws).length→Ed l (szW ws) u v c→fW ws u v≤c∧Ed l (szW ws) u v (fW ws u v):=by
 intro u v c h0 h1 he
 have hl:(szW ws).length=ws.length:=by simp [szW]
 have g:=good_td hw hn h
 obtain ⟨e1,e2,e3,e4,e5⟩:=g.ed he
 obtain ⟨i,rfl⟩:∃ i:Nat,u=i:=⟨u.toNat,by omega⟩
 obtain ⟨j,rfl⟩:∃ j:Nat,v=j:=⟨v.toNat,by omega⟩
 have hj:j < ws.length:=by omega
 have hs:(szW ws)[j]?=some (((atW ws j).length:Int)+40):=by
  unfold szW atW
  rw [List.getElem?_map,List.getElem?_eq_getElem hj,List.getD_eq_getElem?_getD,List.getElem?_eq_getElem hj]
  rfl
 have hway:=(h.all i j (by omega) hj (by omega) (.inl (by omega))).2
 have ed1:Ed l (szW ws) i j (cst ws i j):=.inr ⟨_,hway,rfl,rfl,rfl⟩
 have ed2:Ed l (szW ws) i j (((atW ws j).length:Int)+40):=.inl ⟨e1,j,rfl,hs⟩
 have hfe:fW ws i j=min (cst ws i j) (((atW ws j).length:Int)+40):=by
  unfold fW
  rw [Int.toNat_natCast,Int.toNat_natCast]
 rw [hfe]
 constructor
 ·rcases he with ⟨_,k,hk,hc⟩ | ⟨w,hww,w1,w2,w3⟩
  ·obtain rfl:j=k:=by omega
   rw [hs] at hc
   cases hc
   omega
  ·obtain ⟨i',j',_,_,_,rfl⟩:=h.ok w hww
   dsimp only at w1 w2 w3
   obtain rfl:i'=i:=by omega
   obtain rfl:j'=j:=by omega
   omega
 ·rcases Int.le_total (cst ws i j) (((atW ws j).length:Int)+40) with hm | hm
  ·rw [Int.min_eq_left hm]; exact ed1
  ·rw [Int.min_eq_right hm]; exact ed2
theorem Cost_mk {i j:Nat}:delta_Cost (mkD (atW ws i) (atW ws j))=some (cst ws i j,0):=by
 have ok:=mkD_ok (a:=atW ws i) (b:=atW ws j) (by have:=atW_le hw hn i; omega) (by have:=atW_le hw hn j; omega)
 unfold delta_Cost
 rw [Print_ok ok,call_some]
 rfl
theorem Apply_mk {i j:Nat}:delta_Apply (atW ws i) (mkD (atW ws i) (atW ws j))=some (atW ws j,0):=by
 have ok:=mkD_ok (a:=atW ws i) (b:=atW ws j) (by have:=atW_le hw hn i; omega) (by have:=atW_le hw hn j; omega)
 rw [Apply_eq _ ok,patch_mk]
theorem go_loop {Z:Type} {m:DM2} {l:List api_Way} (h:Dn2 ws ws.length 0 m l) (K:Str × Int × Int→Option Bool):∀ (L:List Int) (i:Nat) (u:Nat) (sum:Int),Pth ws.length u L→u < ws.length→0≤sum→(wsum (fW ws) u sum L).2≤9000000000 →
  forL L i (fun i_468 n_470 s nx_467 k_466 =>
      match s with
      | (text_432,at_433,sum_434) =>
       letv (alook m (Arr2_Int.mk at_433 n_470)) fun q_471 =>
       call (delta_Cost (q_471.getD (api_Delta.mk 0 0 [] [] []))) fun r_483 =>
       bif !decide (r_483.2=0) then
        some false
       else
       idx (szW ws) n_470 fun n_484 =>
       bif decide (r_483.1≤n_484) then
        letv (alook m (Arr2_Int.mk at_433 n_470)) fun q_485 =>
        call (delta_Apply text_432 (q_485.getD (api_Delta.mk 0 0 [] [] []))) fun r_497 =>
        bif !decide (r_497.2=0) then
         some false
        else
        nx_467 (r_497.1,n_470,IntKind.i64.wrap (sum_434+r_483.1))
       else
       chk (0≤n_470∧n_470 < (ws.length:Int)) <|
       nx_467 ((ws.getD n_470.toNat []),n_470,IntKind.i64.wrap (sum_434+n_484))) (atW ws u,(u:Int),sum) (fun s=>match s with
      | (text_432,at_433,sum_434) =>
       K (text_432,at_433,sum_434))=K (atW ws (wsum (fW ws) u sum L).1.toNat,(wsum (fW ws) u sum L).1,(wsum (fW ws) u sum L).2)
 | [],i,u,sum,_,_,_,_=>by simp [forL,wsum]
 | v::L,i,u,sum,hp,hu,hs,hb=>by
  obtain ⟨p1,p2,p3,p4⟩:=hp
  obtain ⟨j,rfl⟩:∃ j:Nat,v=j:=⟨v.toNat,by omega⟩
  have hj:j < ws.length:=by omega
  have hne:u ≠ j:=fun e=>p1 (by rw [e])
  have hal:=(h.all u j hu hj hne (.inl hu)).1
  have hfe:fW ws u j=min (cst ws u j) (((atW ws j).length:Int)+40):=by
   unfold fW
   rw [Int.toNat_natCast,Int.toNat_natCast]
  have hc:=cst_ok hw hn u j
  have hfn:∀ x y,0≤fW ws x y:=fun x y=>by
   have:=cst_ok hw hn x.toNat y.toNat
   unfold fW
   omega
  have hge:=wsum_ge hfn L j (sum+fW ws u j)
  simp only [wsum] at hb ⊢
  have ih:=go_loop (Z:=Z) h K L (i+1) j (sum+fW ws u j) p4 hj (by have:=hfn u j; omega) hb
  have hl:j < (szW ws).length:=by simp [szW]; omega
  have hsz:(szW ws)[j]=((atW ws j).length:Int)+40:=by
   simp [szW,atW,List.getD_eq_getElem?_getD,hj]
  unfold forL
  dsimp only
  simp only [letv_eq,hal,Option.getD_some]
  rw [Cost_mk hw hn,call_some]
  simp only [decide_true,Bool.not_true,cond_false]
  rw [idx_eq hl,hsz]
  by_cases hle:cst ws u j≤((atW ws j).length:Int)+40
  ·have e:fW ws u j=cst ws u j:=by rw [hfe,Int.min_eq_left hle]
   rw [e] at ih hge hb ⊢
   rw [decide_eq_true hle,cond_true,Apply_mk hw hn,call_some]
   simp only [decide_true,Bool.not_true,cond_false]
   rw [wrapS (by omega) (by omega)]
   exact ih
  ·have e:fW ws u j=((atW ws j).length:Int)+40:=by rw [hfe,Int.min_eq_right (by omega)]
   rw [e] at ih hge hb ⊢
   rw [decide_eq_false hle,cond_false,chk_true (by omega),wrapS (by omega) (by omega),Int.toNat_natCast]
   exact ih
end
theorem jp_run {S Z:Type} {F:S→Option Z} {m:(S→Option Z)→Option Z} {R:Option Z} (h:∀ K,(∀ s,K s=F s)→m K=R):jp F m=R:=h F fun _=>rfl
theorem top_landed:Top_landed=some true:=by decide +kernel
theorem cloneS (l:List Str) (hl:l.length≤5):slices_Clone_string_string_new l=some l:=by
 unfold slices_Clone_string_string_new
 refine anyOf_intro ⟨false,fun h=>by cases h⟩ fun b hb=>?_
 cases b with
 | false=>rw [cond_false,chk_true (by simp; omega),List.nil_append]
 | true=>rw [cond_true,hb rfl]
def cutT (r:List Str) (j:Nat):List Str:=(r.take j).map (List.take 400)++r.drop j
theorem cutT_len (r:List Str) (j:Nat) (h:j≤r.length):(cutT r j).length=r.length:=by simp [cutT]; omega
theorem cutT_get {r:List Str} {j:Nat} (h:j < r.length):(cutT r j).getD j []=r[j]:=by
 unfold cutT
 rw [List.getD_eq_getElem?_getD,List.getElem?_append_right (by simp; omega)]
 simp [Nat.min_eq_left (Nat.le_of_lt h),h]
theorem cutT_set {r:List Str} {j:Nat} (h:j < r.length):(cutT r j).set j (r[j].take 400)=cutT r (j+1):=by
 unfold cutT
 have e:((r.take j).map (List.take 400)).length=j:=by simp; omega
 have e2:(List.drop j r).set 0 (r[j].take 400)=r[j].take 400::List.drop (j+1) r:=by
  rw [List.drop_eq_getElem_cons h]; rfl
 rw [List.set_append_right _ _ (by omega),e,Nat.sub_self,e2,List.take_succ_eq_append_getElem h,List.map_append,List.append_assoc]
 rfl
theorem cutT_get2 {r:List Str} {j:Nat} (h:j < r.length):(cutT r (j+1)).getD j []=r[j].take 400:=by
 unfold cutT
 rw [List.getD_eq_getElem?_getD,List.getElem?_append_left (by simp; omega)]
 simp [h]
section
variable {ws:List Str} (hw:∀ s ∈ ws,s.length≤400) (hn:ws.length≤5)
include hw hn
theorem pair_loop (K2:DM2 × List api_Way→Option Bool) (X:Option Bool) (hX:∀ m l,Dn2 ws ws.length 0 m l→K2 (m,l)=X) :
  forC ws.length 0 (fun i_684 s nx_683 k_682 =>
    match s with
    | (m1_591,o3_592) =>
     jp (S:=(List (Arr2_Int × api_Delta)) × List api_Way) (fun s=>match s with
      | (m1_729,o3_730) =>
       nx_683 (m1_729,o3_730)) fun k_731 =>
     forC ws.length 0 (fun i_761 s nx_760 k_759 =>
      match s with
      | (m1_746,o3_747) =>
       bif decide ((i_684:Int)=(i_761:Int)) then
        nx_760 (m1_746,o3_747)
       else
       call (delta_Make (ws.getD i_684 []) (ws.getD i_761 [])) fun r_765 =>
       call (delta_Cost r_765.1) fun r_766 =>
       bif ((!decide (r_765.2=0)) || (!decide (r_766.2=0))) then
        some false
       else
       chk ((aset m1_746 (Arr2_Int.mk (i_684:Int) (i_761:Int)) r_765.1).length≤274877906944) <|
       chk ((o3_747++[(api_Way.mk (i_684:Int) (i_761:Int) r_766.1)]).length≤274877906944) <|
       nx_760 (aset m1_746 (Arr2_Int.mk (i_684:Int) (i_761:Int)) r_765.1,o3_747++[(api_Way.mk (i_684:Int) (i_761:Int) r_766.1)])) (m1_591,o3_592) (fun s=>match s with
      | (m1_746,o3_747) =>
       k_731 (m1_746,o3_747))) (([],[]):DM2 × List api_Way) (fun s=>match s with
    | (m1_591,o3_592) =>
     K2 (m1_591,o3_592))=X:=by
 have hq:∀ i,i < ws.length→i * ws.length≤5 * 5:=fun i hi=>Nat.mul_le_mul (by omega) hn
 refine forC_run ws.length (fun i (s:DM2 × List api_Way)=>∃ m l,s=(m,l)∧Dn2 ws i 0 m l) (fun _ _=>X) ?_ ?_ ws.length 0 _ (by omega) ⟨[],[],rfl,.start⟩
 ·rintro _ ⟨m,l,rfl,h⟩
  exact hX m l h
 ·rintro i _ nx hi ⟨m,l,rfl,h⟩ hnx
  dsimp only
  refine jp_run fun K3 hK3=>?_
  refine forC_run ws.length (fun b (s:DM2 × List api_Way)=>∃ m l,s=(m,l)∧Dn2 ws i b m l) (fun _ _=>X) ?_ ?_ ws.length 0 _ (by omega) ⟨m,l,rfl,h⟩
  ·rintro _ ⟨m,l,rfl,h⟩
   dsimp only
   rw [hK3]
   exact hnx _ ⟨m,l,rfl,h.row⟩
  ·rintro b _ nx' hb ⟨m,l,rfl,h⟩ hnx'
   dsimp only
   by_cases e:i=b
   ·subst e
    rw [decide_eq_true rfl,cond_true]
    exact hnx' _ ⟨m,l,rfl,h.same⟩
   ·have hM:delta_Make (ws.getD i []) (ws.getD b [])=some (mkD (atW ws i) (atW ws b),0):=Make_eq (atW ws i) (atW ws b) (by have:=atW_le hw hn i; omega) (by have:=atW_le hw hn b; omega)
    rw [decide_eq_false (by omega),cond_false,hM,call_some,Cost_mk hw hn,call_some]
    simp only [decide_true,Bool.not_true,Bool.or_self,cond_false]
    have h2:=h.next hi hb e
    have hf:=h2.few
    have:=hq i hi
    rw [chk_true (by omega),chk_true (by omega)]
    exact hnx' _ ⟨_,_,rfl,h2⟩
end
theorem law_td (versions:List Str) (from_ to_:Int) (hb:∀ s ∈ versions,s.length≤1048576):Top_TopDeltas versions from_ to_=some true:=by
 unfold Top_TopDeltas
 rw [top_landed,call_some,Bool.not_true,cond_false,chk_true (by omega)]
 have hr5:(List.take (min (versions.length:Int) 5).toNat versions).length≤5:=by rw [List.length_take]; omega
 have hrs:∀ s ∈ List.take (min (versions.length:Int) 5).toNat versions,s.length≤1048576:=fun s hs=>hb s (List.mem_of_mem_take hs)
 generalize List.take (min (versions.length:Int) 5).toNat versions=r at hr5 hrs ⊢
 rw [cloneS r hr5,call_some]
 by_cases h0:r.length=0
 ·rw [decide_eq_true (by omega),cond_true]
 rw [decide_eq_false (by omega),cond_false]
 rw [chk_true (by omega),chk_true (by omega),chk_true (by omega),chk_true (by omega)]
 -- the two places
 have place:∀ x:Int,0≤Int.tmod (IntKind.i64.wrap (Int.tmod x (r.length:Int)+(r.length:Int))) (r.length:Int)∧Int.tmod (IntKind.i64.wrap (Int.tmod x (r.length:Int)+(r.length:Int))) (r.length:Int) < (r.length:Int):=by
  intro x
  have m2:-(r.length:Int) < Int.tmod x (r.length:Int)∧Int.tmod x (r.length:Int) < (r.length:Int) :=
   ⟨Int.neg_lt_of_neg_lt (by have:=Int.tmod_lt_of_pos (-x) (show (0:Int) < (r.length:Int) by omega); rw [Int.neg_tmod] at this; omega),Int.tmod_lt_of_pos x (by omega)⟩
  rw [wrapS (by omega) (by omega)]
  exact ⟨Int.tmod_nonneg _ (by omega),Int.tmod_lt_of_pos _ (by omega)⟩
 have pf:=place from_
 have pt:=place to_
 generalize Int.tmod (IntKind.i64.wrap (Int.tmod from_ (r.length:Int)+(r.length:Int))) (r.length:Int)=p at pf ⊢
 generalize Int.tmod (IntKind.i64.wrap (Int.tmod to_ (r.length:Int)+(r.length:Int))) (r.length:Int)=q at pt ⊢
 obtain ⟨p,rfl⟩:∃ i:Nat,p=i:=⟨p.toNat,by omega⟩
 obtain ⟨q,rfl⟩:∃ i:Nat,q=i:=⟨q.toNat,by omega⟩
 obtain ⟨N,hN⟩:∃ N,Fuel=N:=⟨_,rfl⟩
 have hN2:1099511627776≤N:=hN ▸ fuel_ge
 rw [hN]
 clear hN
 refine jp_run fun K hK=>?_
 have hend:K (r.map (List.take 400),szW (r.map (List.take 400)))=some true:=by
  have hw:∀ s ∈ r.map (List.take 400),s.length≤400:=fun s hs=>by
   obtain ⟨x,_,rfl⟩:=List.mem_map.1 hs
   rw [List.length_take]; omega
  have hn:(r.map (List.take 400)).length≤5:=by rw [List.length_map]; omega
  have hl:(r.map (List.take 400)).length=r.length:=List.length_map ..
  rw [hK]
  dsimp only
  rw [← hl] at pf pt
  clear hK hl hN2 place h0
  generalize r.map (List.take 400)=ws at hw hn pf pt ⊢
  refine jp_run fun K2 hK2=>?_
  refine pair_loop hw hn K2 _ fun m l h=>?_
  rw [hK2]
  dsimp only
  have g:=good_td hw hn h
  have hsl:(szW ws).length=ws.length:=by simp [szW]
  obtain ⟨z,hz,hz0,hopt⟩:=delta_Best_ok (s:=(p:Int)) g (to:=(q:Int)) (ways_ok g) (by omega) (by omega) (by omega) (by omega)
  rw [hz,call_some,hz0]
  simp only [decide_true,Bool.not_true,cond_false]
  rw [chk_true (by omega)]
  obtain ⟨o1,o2,o3⟩:=hopt.path g (by omega) (by omega) (f_ok hw hn h)
  dsimp only at o1 o2 o3
  rw [hsl] at o1
  refine jp_run fun K3 hK3=>?_
  have hg:=go_loop (Z:=Bool) hw hn h K3 z.1 0 p 0 o1 (by omega) (by omega) (by rw [o2]; exact o3)
  rw [o2] at hg
  simp only [Int.toNat_natCast] at hg ⊢
  refine hg.trans ?_
  rw [hK3]
  dsimp only
  rw [chk_true (by omega)]
  simp [atW]
 refine loopN_run (S:=Int × List Str × List Int) (fun s=>∃ j:Nat,j≤r.length∧s=((j:Int),cutT r j,(r.take j).map fun s=>((s.take 400).length:Int)+40)) (fun s=>r.length - s.1.toNat) (fun _=>some true) ?_ N (0,r,[]) ⟨0,by omega,by simp [cutT]⟩ (by simp only; omega)
 rintro _ nx ⟨j,hj,rfl⟩ hnx
 dsimp only
 by_cases h:j < r.length
 ·have hlen:=cutT_len r j hj
  have hrj:=hrs r[j] (List.getElem_mem h)
  have htk:List.take (min (r[j].length:Int) 400).toNat r[j]=r[j].take 400:=by
   by_cases hm:r[j].length≤400
   ·rw [List.take_of_length_le hm,List.take_of_length_le (by omega)]
   ·rw [show (min (r[j].length:Int) 400).toNat=400 by omega]
  rw [decide_eq_true (by omega),cond_true,chk_true (by omega),chk_true (by omega)]
  simp only [Int.toNat_natCast,cutT_get h]
  rw [chk_true (by omega)]
  simp only [htk,cutT_set h,cutT_get2 h]
  rw [chk_true (by omega),chk_true (by rw [cutT_len r (j+1) h]; omega)]
  have hl4:(r[j].take 400).length≤400:=by rw [List.length_take]; omega
  rw [wrapS (by omega) (by omega),chk_true (by simp; omega),wrap1 j (by omega)]
  refine hnx _ ⟨j+1,h,?_⟩ (by simp only [Int.toNat_natCast]; omega)
  rw [List.take_succ_eq_append_getElem h,List.map_append]
  rfl
 ·obtain rfl:j=r.length:=by omega
  rw [decide_eq_false (by omega),cond_false]
  have e1:cutT r r.length=r.map (List.take 400):=by simp [cutT]
  have e2:((r.take r.length).map fun s:Str=>((s.take 400).length:Int)+40)=szW (r.map (List.take 400)):=by
   unfold szW
   rw [List.take_length,List.map_map]
   rfl
  rw [e1,e2]
  exact hend
end Go.Md
