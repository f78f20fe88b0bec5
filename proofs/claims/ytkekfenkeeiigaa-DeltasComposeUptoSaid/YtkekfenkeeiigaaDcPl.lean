/- Plain lemmas on the models: the law's model answers true. -/
import Derived.Test.YtkekfenkeeiigaaDcSf
set_option linter.unusedSimpArgs false
set_option linter.unusedVariables false
set_option linter.unusedSectionVars false
namespace Go.Md
open Go.Vc
section
variable {Z A S α:Type}
theorem call_some (x:A) (k:A→Option Z):call (some x) k=k x:=rfl
theorem callG_some (g:Bool) (x d:A) (k:A→Option Z):callG g (some x) d k=k (bif g then x else d):=by cases g <;> rfl
theorem callG_true (a:Option A) (d:A) (k:A→Option Z):callG true a d k=call a k:=rfl
theorem callG_false (a:Option A) (d:A) (k:A→Option Z):callG false a d k=k d:=rfl
theorem chk_true {p:Prop} [Decidable p] (h:p) (m:Option Z):chk p m=m:=if_pos h
theorem jp_eq (F:S→Option Z) (m:(S→Option Z)→Option Z):jp F m=m F:=rfl
theorem idxS_eq {s:Str} {i:Nat} (h:i < s.length) (k:Int→Option Z):idxS s i k=k (s[i].toNat:Int):=by
 unfold idxS
 simp [h]
theorem idx_eq {l:List α} {i:Nat} (h:i < l.length) (k:α→Option Z):idx l i k=k l[i]:=by
 unfold idx
 simp [h]
theorem forL_all {f:Nat→α→Unit→(Unit→Option Z)→(Unit→Option Z)→Option Z} {z:Z} (q:α→Bool) (hf:∀ i x nx k,f i x () nx k=bif q x then nx () else some z) (k:Unit→Option Z) :
  ∀ (l:List α) (i:Nat),forL l i f () k=bif l.all q then k () else some z
 | [],i=>rfl
 | x::l,i=>by
  unfold forL
  rw [hf,forL_all q hf k l (i+1),List.all_cons]
  cases q x <;> rfl
theorem forL_run {f:Nat→α→S→(S→Option Z)→(S→Option Z)→Option Z} {k:S→Option Z} (inv:Nat→List α→S→Prop) (R:Nat→List α→S→Option Z)
  (h0:∀ i s,inv i [] s→k s=R i [] s) (h1:∀ i x l s nx,inv i (x::l) s→(∀ s',inv (i+1) l s'→nx s'=R (i+1) l s')→f i x s nx k=R i (x::l) s) :
  ∀ (l:List α) (i:Nat) (s:S),inv i l s→forL l i f s k=R i l s
 | [],i,s,h=>h0 i s h
 | x::l,i,s,h=>h1 i x l s _ h fun s' hs=>forL_run inv R h0 h1 l (i+1) s' hs
theorem loopN_run {f:S→(S→Option Z)→(S→Option Z)→Option Z} {k:S→Option Z} (inv:S→Prop) (mu:S→Nat) (R:S→Option Z)
  (h:∀ s nx,inv s→(∀ s',inv s'→mu s' < mu s→nx s'=R s')→f s nx k=R s):∀ (N:Nat) (s:S),inv s→mu s < N→loopN N f s k=R s
 | 0,s,_,hm=>by omega
 | N+1,s,hi,hm=>by
  unfold loopN
  exact h s _ hi fun s' hs' hlt=>loopN_run inv mu R h N s' hs' (by omega)
theorem condN (c:Bool) (x y:Z):(bif c then x else y)=bif !c then y else x:=by cases c <;> rfl
theorem bif_t {c:Bool} (h:c=true) (x y:Z):(bif c then x else y)=x:=by rw [h]; rfl
theorem bif_f {c:Bool} (h:c=false) (x y:Z):(bif c then x else y)=y:=by rw [h]; rfl
end
theorem wrapS {n:Int} (h1:-9223372036854775808≤n) (h2:n≤9223372036854775807):IntKind.i64.wrap n=n:=wrap64 h1 h2
theorem wrapN (n:Nat) (h:n≤9223372036854775807):IntKind.i64.wrap (n:Int)=n:=wrap64 (by omega) (by omega)
theorem wrap1 (i:Nat) (h:i < 9223372036854775807):IntKind.i64.wrap ((i:Int)+1)=((i+1:Nat):Int):=by rw [wrapS (by omega) (by omega)]; rfl
theorem fuel_ge:1099511627776≤Fuel:=Nat.le_refl _
theorem wrapU (n:Nat) (h:n < 18446744073709551616):IntKind.u64.wrap (n:Int)=n:=by
 unfold IntKind.wrap
 simp only [IntKind.bits,IntKind.signed,Bool.false_and,Bool.false_eq_true,if_false]
 omega
theorem wrapU_range (n:Int):∃ m:Nat,IntKind.u64.wrap n=m∧m < 18446744073709551616:=by
 refine ⟨(n % 18446744073709551616).toNat,?_,by omega⟩
 unfold IntKind.wrap
 simp only [IntKind.bits,IntKind.signed,Bool.false_and,Bool.false_eq_true,if_false]
 omega
theorem shr_eq (n c:Nat) (k:IntKind) (hc:c≤k.bits):Int.fdiv (n:Int) (2 ^ (shI k (c:Int)))=((n / 2 ^ c:Nat):Int):=by
 have:shI k (c:Int)=c:=by unfold shI; simp; omega
 rw [this,Int.fdiv_eq_ediv_of_nonneg _ (Int.le_of_lt (Int.pow_pos (by decide)))]
 rw [Int.natCast_ediv,Int.natCast_pow]; rfl
theorem and_mask (n c m:Nat) (h:n < 18446744073709551616) (hm:m=2 ^ c - 1) (hc:c < 64):bitsI .and .u64 (n:Int) (m:Int)=((n % 2 ^ c:Nat):Int):=by
 subst hm
 have h1:2 ^ c≤2 ^ 63:=Nat.pow_le_pow_right (by decide) (by omega)
 show IntKind.u64.wrap (((BitVec.ofInt 64 (n:Int) &&& BitVec.ofInt 64 ((2 ^ c - 1:Nat):Int)).toNat:Nat):Int)=_
 rw [BitVec.toNat_and,BitVec.toNat_ofInt,BitVec.toNat_ofInt]
 have e1:((n:Int) % ((2 ^ 64:Nat):Int)).toNat=n:=by omega
 have e2:(((2 ^ c - 1:Nat):Int) % ((2 ^ 64:Nat):Int)).toNat=2 ^ c - 1:=by omega
 rw [e1,e2,Nat.and_two_pow_sub_one_eq_mod]
 exact wrapU _ (Nat.lt_of_le_of_lt (Nat.mod_le _ _) h)
theorem forL_fold {Z S α:Type} (g:S→α→S) (k:S→Option Z):∀ (l:List α) (i:Nat) (s:S),forL l i (fun _ c s nx _=>nx (g s c)) s k=k (l.foldl g s)
 | [],_,_=>rfl
 | x::l,i,s=>by
  unfold forL
  exact forL_fold g k l (i+1) (g s x)
theorem set_map_range {α:Type} (n i:Nat) (f:Nat→α) (v:α):((List.range n).map f).set i v=(List.range n).map (fun j=>if j=i then v else f j):=by
 apply List.ext_getElem
 ·simp
 ·intro j h1 h2
  simp only [List.getElem_set,List.getElem_map,List.getElem_range]
  by_cases h:i=j
  ·subst h; simp
  ·rw [if_neg h,if_neg (Ne.symm h)]
theorem strOf_map {α:Type} (l:List α) (f:α→UInt8):Go.Vc.strOf (l.map fun x=>((f x).toNat:Int))=l.map f:=by
 unfold Go.Vc.strOf
 simp
def HXs:Str:=[48,49,50,51,52,53,54,55,56,57,97,98,99,100,101,102]
def dg (n:Nat):UInt8:=HXs.getD n 0
def hx:Nat→Nat→Str
 | 0,_=>[]
 | k+1,n=>hx k (n / 16)++[dg (n % 16)]
def hashI (h:Int) (c:UInt8):Int:=IntKind.u64.wrap ((bitsI .xor .u64 h (IntKind.u64.wrap (c.toNat:Int))) * 1099511628211)
def hashZ (s:Str):Int:=s.foldl hashI 14695981039346656037
def sumS (s:Str):Str:=hx 16 (hashZ s).toNat
theorem hashZ_nat (s:Str):∃ n:Nat,hashZ s=n∧n < 18446744073709551616:=by
 have:∀ (s:Str) (h:Int),(∃ n:Nat,h=n∧n < 18446744073709551616)→∃ n:Nat,s.foldl hashI h=n∧n < 18446744073709551616:=by
  intro s
  induction s with
  | nil=>exact fun h hh=>hh
  | cons c s ih=>exact fun h _=>ih _ (wrapU_range _)
 exact this s _ ⟨14695981039346656037,rfl,by decide⟩
theorem hx_length:∀ (k n:Nat),(hx k n).length=k
 | 0,_=>rfl
 | k+1,n=>by simp [hx,hx_length k]
theorem sumS_length (s:Str):(sumS s).length=16:=hx_length _ _
theorem idx_hx {Z:Type} (m:Nat) (h:m < 16) (k:Int→Option Z):idxS HXs (m:Int) k=k ((dg m).toNat:Int):=by
 rw [idxS_eq (by simpa [HXs] using h)]
 simp only [dg,List.getD_eq_getElem?_getD,List.getElem?_eq_getElem (show m < HXs.length by simpa [HXs] using h),Option.getD_some]
theorem hx16 (n:Nat):(List.range 16).map (fun j=>dg (n / 2 ^ (60 - 4 * j) % 16))=hx 16 n:=by
 simp only [hx,List.range,List.range.loop,List.map_cons,List.map_nil,Nat.div_div_eq_div_mul,List.nil_append,List.cons_append]
 simp
theorem disk_SumOf_eq (s:Str):disk_SumOf s=some (sumS s):=by
 obtain ⟨n,hn,hlt⟩:=hashZ_nat s
 unfold disk_SumOf
 obtain ⟨N,hN⟩:∃ N,Fuel=N:=⟨_,rfl⟩
 have hF:1099511627776≤N:=hN ▸ fuel_ge
 rw [hN]
 show forL s 0 (fun _ c h nx _=>nx (hashI h c)) 14695981039346656037 _=_
 rw [forL_fold]
 show jp _ (fun k_27=>loopN N _ _ _)=_
 rw [show s.foldl hashI 14695981039346656037=(n:Int) from hn]
 unfold jp
 let arr:=fun i:Nat=>(List.range 16).map fun j=>if j < i then ((dg (n / 2 ^ (60 - 4 * j) % 16)).toNat:Int) else 0
 refine (loopN_run (fun s=>∃ i:Nat,s.1=(i:Int)∧i≤16∧s.2=arr i) (fun s=>16 - s.1.toNat) (fun _=>some (sumS s)) ?_ N _ ⟨0,rfl,by omega,?_⟩ (by show 16 - Int.toNat 0 < N; simp; omega)).trans rfl
 ·rintro ⟨t,o⟩ nx ⟨i,h1,hi,h2⟩ hnx
  obtain rfl:t=i:=h1
  obtain rfl:o=arr i:=h2
  simp only [List.length_replicate]
  by_cases h:i < 16
  ·rw [bif_t (decide_eq_true (by omega))]
   have e1:IntKind.i64.wrap (60 - IntKind.i64.wrap (4 * (i:Int)))=((60 - 4 * i:Nat):Int):=by
    rw [wrapS (n:=4 * (i:Int)) (by omega) (by omega),wrapS (by omega) (by omega)]; omega
   rw [e1,chk_true (by omega),shr_eq _ _ _ (by simp only [IntKind.bits]; omega)]
   rw [show (15:Int)=((15:Nat):Int) from rfl,and_mask _ 4 15 (Nat.lt_of_le_of_lt (Nat.div_le_self _ _) hlt) (by decide) (by decide)]
   show idxS HXs _ _=_
   rw [idx_hx _ (Nat.mod_lt _ (by decide)),chk_true (by simp [arr]; omega),wrap1 i (by omega)]
   refine hnx _ ⟨i+1,rfl,by omega,?_⟩ ?_
   ·show List.set (arr i) (Int.toNat (i:Int)) _=_
    rw [Int.toNat_natCast]
    show ((List.range 16).map _).set i _=(List.range 16).map _
    rw [set_map_range]
    apply List.map_congr_left
    intro j _
    by_cases hj:j=i
    ·subst hj; rw [if_pos rfl,if_pos (by omega)]
    ·rw [if_neg hj]
     by_cases hj':j < i
     ·rw [if_pos hj',if_pos (by omega)]
     ·rw [if_neg hj',if_neg (by omega)]
   ·show 16 - Int.toNat ((i+1:Nat):Int) < 16 - Int.toNat (i:Int)
    rw [Int.toNat_natCast,Int.toNat_natCast]; omega
  ·rw [bif_f (decide_eq_false (by omega))]
   obtain rfl:i=16:=by omega
   show some (Go.Vc.strOf (arr 16))=_
   have:arr 16=(List.range 16).map fun j=>((dg (n / 2 ^ (60 - 4 * j) % 16)).toNat:Int):=by
    apply List.map_congr_left
    intro j hj
    rw [if_pos (List.mem_range.1 hj)]
   rw [this,strOf_map,hx16]
   unfold sumS
   rw [hn]; rfl
 ·show List.replicate 16 (0:Int)=_
  apply List.ext_getElem
  ·simp [arr]
  ·intro j h1 h2
   rw [List.getElem_replicate]
   simp only [arr,List.getElem_map,List.getElem_range]
   rfl
theorem u8all {p:UInt8→Prop} (h:∀ n:Fin 256,p (UInt8.ofNat n.val)) (c:UInt8):p c:=by
 have:=h ⟨c.toNat,c.toNat_lt⟩
 simpa using this
def isHx (c:UInt8):Bool:=(decide (48≤(c.toNat:Int)) && decide ((c.toNat:Int)≤57)) || (decide (97≤(c.toNat:Int)) && decide ((c.toNat:Int)≤102))
def isS (s:Str):Bool:=s.all isHx && decide ((s.length:Int)=16)
def hv1 (c:UInt8):Nat:=if c.toNat≤57 then c.toNat - 48 else c.toNat - 87
def hv (s:Str):Nat:=s.foldl (fun n c=>n * 16+hv1 c) 0
theorem delta_isSum_eq (s:Str):delta_isSum s=some (isS s):=by
 unfold delta_isSum
 rw [jp_eq]
 refine (forL_all (z:=false) (q:=isHx) (fun i x nx k=>?_) _ s 0).trans ?_
 ·rw [condN,Bool.not_not]; rfl
 ·unfold isS
  cases s.all isHx <;> rfl
theorem R_IsSum_eq (s:Str):R_IsSum s=some (isS s):=by
 unfold R_IsSum
 rw [jp_eq]
 refine (forL_all (z:=false) (q:=isHx) (fun i x nx k=>?_) _ s 0).trans ?_
 ·rw [condN]
  congr 1
  revert x
  exact u8all (by decide +kernel)
 ·unfold isS
  cases s.all isHx <;> rfl
def grp:Nat→Nat→Str
 | 0,n=>[UInt8.ofNat (n % 128)]
 | k+1,n=>if n < 128 then [UInt8.ofNat n] else UInt8.ofNat (n % 128+128)::grp k (n / 128)
def grpS (n:Int):Str:=grp 3 n.toNat
theorem grp_len:∀ k n,(grp k n).length≤k+1
 | 0,n=>by simp [grp]
 | k+1,n=>by
  have:=grp_len k (n / 128)
  simp only [grp]
  split <;> simp
  omega
theorem grpS_len (n:Int):(grpS n).length≤4:=grp_len _ _
theorem dg_hx:∀ m:Fin 16,isHx (dg m.val)=true:=by decide +kernel
theorem hx_all:∀ k n,∀ c ∈ hx k n,isHx c=true
 | 0,_,c,h=>by cases h
 | k+1,n,c,h=>by
  rcases List.mem_append.1 h with h | h
  ·exact hx_all k _ c h
  ·obtain rfl:=List.mem_singleton.1 h
   exact dg_hx ⟨n % 16,Nat.mod_lt _ (by decide)⟩
theorem isS_sumS (s:Str):isS (sumS s)=true:=by
 unfold isS
 rw [Bool.and_eq_true,List.all_eq_true,decide_eq_true_eq,sumS_length]
 exact ⟨hx_all _ _,rfl⟩
theorem join0 (l:List Str) (hl:0 < l.length) (hs:(l.map List.length).sum≤274877906000):strings_Join l []=some l.flatten:=by
 unfold strings_Join
 simp only [jp_eq,List.length_nil]
 rw [bif_f (decide_eq_false (by omega))]
 rcases l with _ | ⟨a,_ | ⟨b,l⟩⟩
 ·simp at hl
 ·rw [bif_t (decide_eq_true (show (([a]:List Str).length:Int)=1 from rfl))]
  show idx [a] ((0:Nat):Int) _=_
  rw [idx_eq (by simp)]
  simp
 rw [bif_f (decide_eq_false (by simp; omega)),bif_f (by decide)]
 have sumloop:∀ (q:List Str) (i:Nat) (n:Nat) (k:Int→Option Str),n+(q.map List.length).sum≤274877906000 →
   forL q i (fun i_62 s_64 n_57 nx_61 k_60=>bif decide ((IntKind.i64.wrap (9223372036854775807 - n_57)) < (s_64.length:Int)) then none else nx_61 (IntKind.i64.wrap (n_57+(s_64.length:Int)))) (n:Int) k=k ((n+(q.map List.length).sum:Nat):Int):=by
  intro q
  induction q with
  | nil=>intro i n k h; simp [forL]
  | cons x q ih =>
   intro i n k h
   simp only [List.map_cons,List.sum_cons] at h
   unfold forL
   dsimp only
   rw [wrapS (n:=9223372036854775807 - (n:Int)) (by omega) (by omega),bif_f (decide_eq_false (by omega)),show (n:Int)+(x.length:Int)=((n+x.length:Nat):Int) by omega,wrapN _ (by omega)]
   rw [ih (i+1) (n+x.length) k (by omega)]
   simp only [List.map_cons,List.sum_cons,Nat.add_assoc]
 have:=sumloop (a::b::l) 0 0 (fun n_57=>call (strings_Builder_Grow n_57 []) fun r_17 =>
   idx (a::b::l) 0 fun s_18 =>
   call (strings_Builder_WriteString_i1 s_18 []) fun r_19 =>
   chk (0≤1∧1≤((a::b::l).length:Int)) <|
   forL (List.drop 1 (a::b::l)) 0 (fun i_52 s_54 o1_46 nx_51 k_50 =>
    call (strings_Builder_WriteString_i1 [] o1_46) fun r_55 =>
    call (strings_Builder_WriteString_i1 s_54 r_55.2) fun r_56 =>
    nx_51 r_56.2) r_19.2 (fun o1_46=>call (strings_Builder_String_i1 o1_46) fun r_39=>some r_39)) (by omega)
 refine this.trans ?_
 clear this
 unfold strings_Builder_Grow
 rw [chk_true (by omega),call_some]
 show idx (a::b::l) ((0:Nat):Int) _=_
 rw [idx_eq (by simp)]
 have wr:∀ (o s:Str),o.length+s.length≤274877906944→strings_Builder_WriteString_i1 s o=some ((s.length:Int),o++s):=by
  intro o s h
  unfold strings_Builder_WriteString_i1 strings_Builder_copyCheck_np
  rw [call_some,chk_true (by simp; omega)]
 simp only [List.map_cons,List.sum_cons] at hs
 rw [List.getElem_cons_zero,wr _ _ (by simp; omega),call_some,chk_true (by simp; omega)]
 have wl:∀ (q:List Str) (i:Nat) (o:Str),o.length+(q.map List.length).sum≤274877906000 →
   forL q i (fun i_52 s_54 o1_46 nx_51 k_50 =>
    call (strings_Builder_WriteString_i1 [] o1_46) fun r_55 =>
    call (strings_Builder_WriteString_i1 s_54 r_55.2) fun r_56 =>
    nx_51 r_56.2) o (fun o1_46=>call (strings_Builder_String_i1 o1_46) fun r_39=>some r_39)=some (o++q.flatten):=by
  intro q
  induction q with
  | nil=>intro i o h; simp [forL,strings_Builder_String_i1,call_some]
  | cons x q ih =>
   intro i o h
   simp only [List.map_cons,List.sum_cons] at h
   unfold forL
   dsimp only
   rw [wr _ _ (by simp; omega),call_some]
   simp only [List.append_nil]
   rw [wr _ _ (by omega),call_some,ih _ _ (by simp; omega)]
   simp
 refine (wl (List.drop 1 (a::b::l)) 0 _ (by simp; omega)).trans ?_
 simp
abbrev Pc:=api_Piece
def peL (old:Int):List Pc→Int→Int × Int
 | [],n=>bif decide (65536 < n) then (0,4) else (n,0)
 | p::l,n=>bif !decide (p.Data=[]) then
   (bif ((!decide (p.At=0)) || (!decide (p.Long=0))) then (0,2) else peL old l (IntKind.i64.wrap (n+(p.Data.length:Int))))
  else
   bif ((((decide (p.At < 0)) || (decide (p.Long < 1))) || (decide (old < p.At))) || (decide (old - p.At < p.Long))) then (0,3) else peL old l (IntKind.i64.wrap (n+p.Long))
def pe (l:List Pc) (old:Int):Int × Int :=
 bif ((decide (old < 0)) || (decide (65536 < old))) then (0,3) else bif decide (5000 < (l.length:Int)) then (0,4) else peL old l 0
theorem R_PiecesError_eq (l:List Pc) (old:Int):R_PiecesError l old=some (pe l old):=by
 unfold R_PiecesError pe
 cases h0:((decide (old < 0)) || (decide (65536 < old)))
 rotate_left
 ·rfl
 simp only [Bool.or_eq_false_iff,decide_eq_false_iff_not] at h0
 simp only [cond_false]
 cases decide (5000 < (l.length:Int))
 rotate_left
 ·rfl
 simp only [cond_false,jp_eq]
 refine forL_run (fun _ _ _=>True) (fun _ l n=>some (peL old l n)) ?_ ?_ l 0 0 trivial
 ·intro i n _; unfold peL; cases decide (65536 < n) <;> rfl
 ·intro i p l n nx _ hnx
  have ih:=fun n=>hnx n trivial
  unfold peL
  cases decide (p.Data=[])
  ·simp only [Bool.not_false,cond_true]
   cases ((!decide (p.At=0)) || (!decide (p.Long=0)))
   ·exact ih _
   ·rfl
  ·simp only [Bool.not_true,cond_false]
   have e:((((decide (p.At < 0)) || (decide (p.Long < 1))) || (decide (old < p.At))) || (decide ((IntKind.i64.wrap (old - p.At)) < p.Long)))=((((decide (p.At < 0)) || (decide (p.Long < 1))) || (decide (old < p.At))) || (decide (old - p.At < p.Long))):=by
    by_cases h:p.At < 0 ∨ old < p.At
    ·rcases h with h | h <;> simp [h]
    ·rw [wrapS (by omega) (by omega)]
   rw [e]
   cases ((((decide (p.At < 0)) || (decide (p.Long < 1))) || (decide (old < p.At))) || (decide (old - p.At < p.Long)))
   ·exact ih _
   ·rfl
theorem CheckSteps_eq (l:List Pc) (old:Int):delta_CheckSteps l old=some (pe l old):=by
 unfold delta_CheckSteps pe delta_outside
 rw [call_some]
 cases h0:((decide (old < 0)) || (decide (65536 < old)))
 rotate_left
 ·rfl
 simp only [Bool.or_eq_false_iff,decide_eq_false_iff_not] at h0
 simp only [cond_false]
 cases decide (5000 < (l.length:Int))
 rotate_left
 ·rfl
 simp only [cond_false,jp_eq]
 refine forL_run (fun _ _ _=>True) (fun _ l n=>some (peL old l n)) ?_ ?_ l 0 0 trivial
 ·intro i n _; unfold peL; cases decide (65536 < n) <;> rfl
 ·intro i p l n nx _ hnx
  have ih:=fun n=>hnx n trivial
  unfold peL
  cases decide (p.Data=[])
  ·simp only [Bool.not_false,cond_true]
   cases ((!decide (p.At=0)) || (!decide (p.Long=0)))
   ·exact ih _
   ·rfl
  ·simp only [Bool.not_true,cond_false]
   have e:((((decide (p.At < 0)) || (decide (p.Long < 1))) || (decide (old < p.Long))) || (decide ((IntKind.i64.wrap (old - p.Long)) < p.At)))=((((decide (p.At < 0)) || (decide (p.Long < 1))) || (decide (old < p.At))) || (decide (old - p.At < p.Long))):=by
    by_cases h1:p.At < 0
    ·simp [h1]
    by_cases h2:p.Long < 1
    ·simp [h2]
    by_cases h:old < p.Long
    ·have:old < p.At ∨ old - p.At < p.Long:=by omega
     rcases this with h' | h' <;> simp [h,h']
    ·rw [wrapS (by omega) (by omega)]
     have:(old - p.Long < p.At) ↔ (old < p.At ∨ old - p.At < p.Long):=by omega
     rw [decide_eq_false h1,decide_eq_false h2,decide_eq_false h]
     simp only [Bool.or_false,Bool.false_or]
     rw [← Bool.decide_or]
     exact decide_eq_decide.2 this
   rw [e]
   cases ((((decide (p.At < 0)) || (decide (p.Long < 1))) || (decide (old < p.At))) || (decide (old - p.At < p.Long)))
   ·exact ih _
   ·rfl
def Pok (old:Int) (p:Pc):Prop:=(p.Data ≠ []∧p.At=0∧p.Long=0) ∨ (p.Data=[]∧0≤p.At∧1≤p.Long∧p.At+p.Long≤old)
theorem peL_ok (old:Int):∀ (l:List Pc) (n:Int),(peL old l n).2=0→∀ p ∈ l,Pok old p
 | [],_,_,_,hp=>by cases hp
 | q::l,n,h,p,hp=>by
  unfold peL at h
  by_cases hd:q.Data=[]
  ·rw [decide_eq_true hd] at h
   simp only [Bool.not_true,cond_false] at h
   cases hc:((((decide (q.At < 0)) || (decide (q.Long < 1))) || (decide (old < q.At))) || (decide (old - q.At < q.Long))) <;> rw [hc] at h
   ·simp only [Bool.or_eq_false_iff,decide_eq_false_iff_not] at hc
    rcases List.mem_cons.1 hp with rfl | hp
    ·exact .inr ⟨hd,by omega,by omega,by omega⟩
    ·exact peL_ok old l _ h p hp
   ·simp at h
  ·rw [decide_eq_false hd] at h
   simp only [Bool.not_false,cond_true] at h
   cases hc:((!decide (q.At=0)) || (!decide (q.Long=0))) <;> rw [hc] at h
   ·simp only [Bool.or_eq_false_iff,Bool.not_eq_false',decide_eq_true_eq] at hc
    rcases List.mem_cons.1 hp with rfl | hp
    ·exact .inl ⟨hd,hc.1,hc.2⟩
    ·exact peL_ok old l _ h p hp
   ·simp at h
theorem pe_ok {l:List Pc} {old:Int} (h:(pe l old).2=0):0≤old∧old≤65536∧l.length≤5000∧∀ p ∈ l,Pok old p:=by
 unfold pe at h
 cases h0:((decide (old < 0)) || (decide (65536 < old))) <;> rw [h0] at h
 rotate_left
 ·simp at h
 simp only [cond_false] at h
 cases h1:decide (5000 < (l.length:Int)) <;> rw [h1] at h
 rotate_left
 ·simp at h
 simp only [Bool.or_eq_false_iff,decide_eq_false_iff_not] at h0 h1
 exact ⟨by omega,by omega,by omega,peL_ok old l 0 h⟩
def de (d:api_Delta):Int :=
 bif ((((decide (d.Old < 0)) || (decide (65536 < d.Old))) || (decide (d.New < 0))) || (decide (65536 < d.New))) then 3
 else bif !(isS d.OldSum && isS d.NewSum) then 2
 else bif decide ((pe d.Pieces d.Old).2=0) then (bif decide ((pe d.Pieces d.Old).1=d.New) then 0 else 11) else (pe d.Pieces d.Old).2
theorem first2 (a b:Int):R_first [a,b]=some (bif decide (a=0) then b else a):=by
 unfold R_first
 rw [jp_eq]
 by_cases h:a=0
 ·subst h
  by_cases h':b=0
  ·subst h'; rfl
  ·simp [forL,h']
 ·simp [forL,h]
theorem when_eq (b:Bool) (e:Int):R_when b e=some (bif b then e else 0):=by unfold R_when; cases b <;> rfl
theorem DeltaError_eq (d:api_Delta):R_DeltaError d=some (de d):=by
 unfold R_DeltaError de
 cases ((((decide (d.Old < 0)) || (decide (65536 < d.Old))) || (decide (d.New < 0))) || (decide (65536 < d.New)))
 rotate_left
 ·rfl
 simp only [cond_false,R_IsSum_eq,R_PiecesError_eq,call_some,callG_some,first2,when_eq]
 cases isS d.OldSum <;> simp only [Bool.not_false,Bool.not_true,cond_false,cond_true,Bool.true_or,Bool.false_or,Bool.false_and,Bool.true_and]
 cases isS d.NewSum <;> simp only [Bool.not_false,Bool.not_true,cond_false,cond_true]
 cases decide ((pe d.Pieces d.Old).2=0) <;> simp only [cond_false,cond_true]
 cases decide ((pe d.Pieces d.Old).1=d.New) <;> rfl
theorem Check_eq (d:api_Delta):delta_Check d=some (de d):=by
 unfold delta_Check de delta_outside
 simp only [call_some,callG_some,delta_isSum_eq,CheckSteps_eq]
 cases ((decide (d.Old < 0)) || (decide (65536 < d.Old)))
 ·simp only [Bool.not_false,cond_true,Bool.false_or]
  cases ((decide (d.New < 0)) || (decide (65536 < d.New)))
  ·simp only [cond_false]
   cases isS d.OldSum <;> simp only [Bool.not_false,Bool.not_true,cond_false,cond_true,Bool.true_or,Bool.false_or,Bool.false_and,Bool.true_and]
   cases isS d.NewSum <;> simp only [Bool.not_false,Bool.not_true,cond_false,cond_true]
   by_cases h:(pe d.Pieces d.Old).2=0
   ·rw [decide_eq_true h]
    simp only [cond_true,Bool.true_and]
    cases decide ((pe d.Pieces d.Old).1=d.New) <;> simp [h]
   ·rw [decide_eq_false h]; rfl
  ·rfl
 ·rfl
theorem de_ok {d:api_Delta} (h:de d=0):0≤d.Old∧d.Old≤65536∧0≤d.New∧d.New≤65536∧isS d.OldSum=true∧isS d.NewSum=true∧d.Pieces.length≤5000∧∀ p ∈ d.Pieces,Pok d.Old p:=by
 unfold de at h
 cases h0:((((decide (d.Old < 0)) || (decide (65536 < d.Old))) || (decide (d.New < 0))) || (decide (65536 < d.New))) <;> rw [h0] at h
 rotate_left
 ·simp at h
 simp only [cond_false] at h
 cases h1:(isS d.OldSum && isS d.NewSum) <;> rw [h1] at h
 ·simp at h
 simp only [Bool.not_true,cond_false] at h
 cases h2:decide ((pe d.Pieces d.Old).2=0) <;> rw [h2] at h
 ·simp only [cond_false] at h
  simp only [decide_eq_false_iff_not] at h2
  exact absurd h h2
 ·simp only [Bool.or_eq_false_iff,decide_eq_false_iff_not] at h0
  obtain ⟨_,_,h3,h4⟩:=pe_ok (of_decide_eq_true h2)
  rw [Bool.and_eq_true] at h1
  exact ⟨by omega,by omega,by omega,by omega,h1.1,h1.2,h3,h4⟩
theorem wr_eq (o s:Str) (h:o.length+s.length≤274877906944):strings_Builder_WriteString_i1 s o=some ((s.length:Int),o++s):=by
 unfold strings_Builder_WriteString_i1 strings_Builder_copyCheck_np
 rw [call_some,chk_true (by simp; omega)]
theorem bs_eq (o:Str):strings_Builder_String_i1 o=some o:=rfl
def pm (a:Str) (p:Pc):Str:=if p.Data=[] then (a.drop p.At.toNat).take p.Long.toNat else p.Data
def made (a:Str) (l:List Pc):Str:=l.flatMap (pm a)
theorem pm_len {a:Str} {p:Pc} (h:Pok a.length p) (hd:p.Data.length≤1048576) (ha:a.length≤65536):(pm a p).length≤1048576:=by
 unfold pm
 split
 ·simp; omega
 ·exact hd
theorem made_loop {Z:Type} {a:Str} (ha:a.length≤65536) (k:Str→Option Z) (l:List Pc) (hl:∀ p ∈ l,Pok a.length p∧p.Data.length≤1048576) (hn:l.length≤5000) :
  forL l 0 (fun i_38 p_40 o1_31 nx_37 k_36 =>
   bif !decide (p_40.Data=[]) then
    call (strings_Builder_WriteString_i1 p_40.Data o1_31) fun r_41 =>
    nx_37 r_41.2
   else
   chk (0≤p_40.At∧p_40.At≤(a.length:Int)∧0≤IntKind.i64.wrap (p_40.At+p_40.Long)∧IntKind.i64.wrap (p_40.At+p_40.Long)≤(a.length:Int)∧p_40.At≤IntKind.i64.wrap (p_40.At+p_40.Long)) <|
   call (strings_Builder_WriteString_i1 (List.take ((IntKind.i64.wrap (p_40.At+p_40.Long)).toNat - p_40.At.toNat) (List.drop p_40.At.toNat a)) o1_31) fun r_43 =>
   nx_37 r_43.2) [] k=k (made a l):=by
 refine forL_run (fun _ r o=>(∀ p ∈ r,Pok a.length p∧p.Data.length≤1048576)∧o.length+r.length * 1048576≤5242880000) (fun _ r o=>k (o++made a r)) ?_ ?_ l 0 [] ⟨hl,by simp; omega⟩
 ·intro i o _; simp [made]
 ·intro i p r o nx ⟨hr,ho⟩ hnx
  have hp:=hr p (by simp)
  have hpl:=pm_len hp.1 hp.2 ha
  simp only [List.length_cons] at ho
  have fin:∀ s:Str,s=pm a p→(call (strings_Builder_WriteString_i1 s o) fun r_41=>nx r_41.2)=k (o++made a (p::r)):=by
   rintro s rfl
   rw [wr_eq _ _ (by omega),call_some,hnx _ ⟨fun q hq=>hr q (by simp [hq]),by simp; omega⟩]
   simp [made]
  by_cases hd:p.Data=[]
  ·rw [decide_eq_true hd,Bool.not_true,cond_false]
   rcases hp.1 with h | ⟨_,h1,h2,h3⟩
   ·exact absurd hd h.1
   ·rw [wrapS (by omega) (by omega),chk_true (by omega)]
    apply fin
    unfold pm
    rw [if_pos hd]
    congr 1
    omega
  ·rw [decide_eq_false hd,Bool.not_false,cond_true]
   exact fin _ (by unfold pm; rw [if_neg hd])
def mg (p q:Pc):Bool:=(decide (p.Data=[]) && decide (q.Data=[]) && decide (q.At=p.At+p.Long)) || (!decide (p.Data=[]) && !decide (q.Data=[]))
def mrg (p q:Pc):Pc:=⟨p.At,if p.Data=[] then p.Long+q.Long else p.Long,p.Data++q.Data⟩
def jn:Pc→List Pc→List Pc
 | p,[]=>[p]
 | p,q::l=>if mg p q=true then jn (mrg p q) l else p::jn q l
def jns:List Pc→List Pc
 | []=>[]
 | p::l=>jn p l
theorem mrg_ok {old:Int} {p q:Pc} (hp:Pok old p) (hq:Pok old q) (h:mg p q=true):Pok old (mrg p q):=by
 unfold mg at h
 unfold mrg
 by_cases hd:p.Data=[]
 ·rw [decide_eq_true hd] at h
  simp only [Bool.true_and,Bool.not_true,Bool.false_and,Bool.or_false,Bool.and_eq_true,decide_eq_true_eq] at h
  rcases hp with hp | ⟨_,h1,h2,h3⟩
  ·exact absurd hd hp.1
  rcases hq with hq | ⟨_,h4,h5,h6⟩
  ·exact absurd h.1 hq.1
  exact .inr ⟨by simp [hd,h.1],h1,by simp only [if_pos hd]; omega,by simp only [if_pos hd]; omega⟩
 ·rcases hp with ⟨_,h1,h2⟩ | hp
  ·exact .inl ⟨by simp [hd],h1,by simp only [if_neg hd]; exact h2⟩
  ·exact absurd hp.1 hd
theorem getD_last (o:List Pc) (q d:Pc):(o++[q]).getD o.length d=q:=by simp [List.getD_eq_getElem?_getD]
theorem set_last (o:List Pc) (q x:Pc):(o++[q]).set o.length x=o++[x]:=by simp [List.set_append]
theorem Joined_eq {old:Int} (h64:old≤65536) (l:List Pc) (hl:∀ p ∈ l,Pok old p∧p.Data.length≤1048576) (hn:l.length≤131072):R_Joined l=some (jns l):=by
 unfold R_Joined
 rw [jp_eq]
 refine forL_run (fun _ r o=>(∀ p ∈ r,Pok old p∧p.Data.length≤1048576)∧o.length+r.length≤131072 ∧
  ((o=[]∧jns l=jns r) ∨ ∃ o' q,o=o'++[q]∧jns l=o'++jn q r∧Pok old q∧q.Data.length+r.length * 1048576≤137438953472)) (fun _ _ _=>some (jns l)) ?_ ?_ l 0 [] ⟨hl,by simpa using hn,.inl ⟨rfl,rfl⟩⟩
 ·rintro i o ⟨_,_,⟨rfl,h⟩ | ⟨o',q,rfl,h,_⟩⟩
  ·rw [h]; rfl
  ·rw [h]; rfl
 ·rintro i p r o nx ⟨hr,hlen,ho⟩ hnx
  have hr':∀ p ∈ r,Pok old p∧p.Data.length≤1048576:=fun q hq=>hr q (by simp [hq])
  have hp:=hr p (by simp)
  simp only [List.length_cons] at hlen
  rcases ho with ⟨rfl,h⟩ | ⟨o',q,rfl,h,hq,hb⟩
  ·have e1:IntKind.i64.wrap ((([]:List Pc).length:Int) - 1)=-1:=by decide
   simp only [e1,show decide ((0:Int)≤-1)=false from rfl,Bool.false_and,cond_false]
   rw [chk_true (by simp),chk_true (by simp),chk_true (by simp),chk_true (by simp),chk_true (by simp)]
   exact hnx _ ⟨hr',by simp at hlen ⊢; omega,.inr ⟨[],p,rfl,h,hp.1,by omega⟩⟩
  ·simp only [List.length_append,List.length_cons,List.length_nil] at hlen hb
   have e1:IntKind.i64.wrap (((o'++[q]).length:Int) - 1)=(o'.length:Int):=by
    rw [List.length_append,List.length_cons,List.length_nil,wrapS (by omega) (by omega)]; omega
   have hlt:(o'.length:Int) < ((o'++[q]).length:Int):=by simp only [List.length_append,List.length_cons,List.length_nil]; omega
   simp only [e1,Int.toNat_natCast,getD_last,set_last,decide_eq_true (show (0:Int)≤(o'.length:Int) by omega),Bool.true_and]
   rw [chk_true (fun _=>⟨by omega,hlt⟩)]
   have hj:jn q (p::r)=if mg q p=true then jn (mrg q p) r else q::jn p r:=rfl
   rw [hj] at h
   by_cases hpd:p.Data=[]
   ·rw [decide_eq_true hpd]
    simp only [Bool.not_true,Bool.false_and,cond_false,Bool.true_and]
    rw [chk_true (fun _=>⟨by omega,hlt⟩),chk_true (fun _=>⟨by omega,hlt⟩),chk_true (fun _=>⟨by omega,hlt⟩)]
    by_cases hqd:q.Data=[]
    ·rw [decide_eq_true hqd,Bool.true_and]
     rcases hq with hq | ⟨_,q1,q2,q3⟩
     ·exact absurd hqd hq.1
     rcases hp.1 with hp1 | ⟨_,p1,p2,p3⟩
     ·exact absurd hpd hp1.1
     rw [wrapS (n:=q.At+q.Long) (by omega) (by omega)]
     have hm:mg q p=decide (q.At+q.Long=p.At):=by
      unfold mg
      rw [decide_eq_true hqd,decide_eq_true hpd]
      simp only [Bool.true_and,Bool.not_true,Bool.false_and,Bool.or_false]
      exact decide_eq_decide.2 ⟨fun e=>e.symm,fun e=>e.symm⟩
     by_cases hc:q.At+q.Long=p.At
     ·rw [decide_eq_true hc,cond_true,chk_true ⟨by omega,hlt⟩,chk_true ⟨by omega,hlt⟩,wrapS (by omega) (by omega)]
      rw [hm,decide_eq_true hc,if_pos rfl] at h
      have e:(⟨q.At,q.Long+p.Long,q.Data⟩:Pc)=mrg q p:=by unfold mrg; rw [if_pos hqd,hpd,List.append_nil]
      rw [e]
      exact hnx _ ⟨hr',by simp; omega,.inr ⟨o',mrg q p,rfl,h,mrg_ok (.inr ⟨hqd,q1,q2,q3⟩) hp.1 (by rw [hm,decide_eq_true hc]),by simp [mrg,hpd,hqd]; omega⟩⟩
     ·rw [decide_eq_false hc,cond_false,chk_true (by simp; omega)]
      rw [hm,decide_eq_false hc,if_neg (by decide)] at h
      exact hnx _ ⟨hr',by simp; omega,.inr ⟨o'++[q],p,rfl,by rw [h]; simp,hp.1,by omega⟩⟩
    ·rw [decide_eq_false hqd]
     simp only [Bool.false_and,cond_false]
     rw [chk_true (by simp; omega)]
     have hm:mg q p=false:=by unfold mg; rw [decide_eq_false hqd,decide_eq_true hpd]; rfl
     rw [hm,if_neg (by decide)] at h
     exact hnx _ ⟨hr',by simp; omega,.inr ⟨o'++[q],p,rfl,by rw [h]; simp,hp.1,by omega⟩⟩
   ·rw [decide_eq_false hpd]
    simp only [Bool.not_false,Bool.true_and,Bool.false_and]
    by_cases hqd:q.Data=[]
    ·rw [decide_eq_true hqd]
     simp only [Bool.not_true,cond_false]
     rw [chk_true (fun _=>⟨by omega,hlt⟩),chk_true (fun _=>⟨by omega,hlt⟩),chk_true (fun _=>⟨by omega,hlt⟩),chk_true (by simp; omega)]
     have hm:mg q p=false:=by unfold mg; rw [decide_eq_true hqd,decide_eq_false hpd]; rfl
     rw [hm,if_neg (by decide)] at h
     exact hnx _ ⟨hr',by simp; omega,.inr ⟨o'++[q],p,rfl,by rw [h]; simp,hp.1,by omega⟩⟩
    ·rw [decide_eq_false hqd]
     simp only [Bool.not_false,cond_true]
     rw [chk_true ⟨by omega,hlt⟩,chk_true (by simp; omega),chk_true ⟨by omega,hlt⟩]
     have hm:mg q p=true:=by unfold mg; rw [decide_eq_false hqd,decide_eq_false hpd]; rfl
     rw [hm,if_pos rfl] at h
     have e:(⟨q.At,q.Long,q.Data++p.Data⟩:Pc)=mrg q p:=by unfold mrg; rw [if_neg hqd]
     rw [e]
     exact hnx _ ⟨hr',by simp; omega,.inr ⟨o',mrg q p,rfl,h,mrg_ok hq hp.1 hm,by simp [mrg]; omega⟩⟩
theorem joined_eq {old:Int} (h64:old≤65536) (l:List Pc) (hl:∀ p ∈ l,Pok old p∧p.Data.length≤1048576) (hn:l.length≤131072):delta_joined l=some (jns l):=by
 unfold delta_joined
 obtain ⟨N,hN⟩:∃ N,Fuel=N:=⟨_,rfl⟩
 have hF:1099511627776≤N:=hN ▸ fuel_ge
 rw [hN,jp_eq]
 refine loopN_run (fun s=>∃ i:Nat,s.1=(i:Int)∧i≤l.length∧s.2.length≤i∧jns l=s.2++jns (l.drop i)) (fun s=>l.length - s.1.toNat) (fun _=>some (jns l)) ?_ N _ ⟨0,rfl,by omega,by simp,by simp⟩ (by show l.length - Int.toNat 0 < N; simp; omega)
 rintro ⟨v,o⟩ nx ⟨i,hv,hi,ho,hj⟩ hnx
 obtain rfl:v=i:=hv
 simp only
 simp only at ho hj
 by_cases h:i < l.length
 ·rw [bif_t (decide_eq_true (by omega)),idx_eq h,wrap1 i (by omega),jp_eq]
  have hp:=hl l[i] (List.getElem_mem _)
  rw [List.drop_eq_getElem_cons h] at hj
  generalize hpe:l[i]=p at hp hj ⊢
  have hj:jns l=o++jn p (l.drop (i+1)):=hj
  refine loopN_run (fun s=>∃ (j:Nat) (D:Str),s.1=(j:Int)∧i < j∧j≤l.length∧s.2.2.flatten=D∧jns l=o++jn ⟨p.At,s.2.1,p.Data++D⟩ (l.drop j)∧Pok old ⟨p.At,s.2.1,p.Data++D⟩∧(p.Data=[]→D=[]) ∧
   (s.2.2.map List.length).sum=D.length∧D.length≤j * 1048576∧s.2.2.length≤j∧(D=[]→s.2.2=[])) (fun s=>l.length - s.1.toNat) (fun _=>some (jns l)) ?_ N _ ⟨i+1,[],rfl,by omega,by omega,rfl,by simpa using hj,by simpa using hp.1,fun _=>rfl,rfl,by simp,by simp,fun _=>rfl⟩ (by show l.length - Int.toNat ((i+1:Nat):Int) < N; omega)
  rintro ⟨v,g,ds⟩ nx' ⟨j,D,hv,hij,hjl,hD,hjn,hok,hpd,hsum,hDl,hdl,hDn⟩ hnx'
  obtain rfl:v=j:=hv
  simp only
  simp only at hD hjn hok hsum hdl hDn
  have hend:(match l.drop j with | []=>True | q::_=>mg ⟨p.At,g,p.Data++D⟩ q=false)→(bif decide (0 < (ds.length:Int)) then
       call (strings_Join ds []) fun r_196 =>
       chk ((p.Data++r_196).length≤274877906944) <|
       chk ((o++[(api_Piece.mk p.At g (p.Data++r_196))]).length≤274877906944) <|
       nx ((j:Int),o++[(api_Piece.mk p.At g (p.Data++r_196))])
      else
      chk ((o++[(api_Piece.mk p.At g p.Data)]).length≤274877906944) <|
      nx ((j:Int),o++[(api_Piece.mk p.At g p.Data)]))=some (jns l):=by
   intro hm
   have hjl':jns l=(o++[⟨p.At,g,p.Data++D⟩])++jns (l.drop j):=by
    rw [hjn]
    cases hdr:l.drop j with
    | nil=>simp [jn,jns]
    | cons q r =>
     rw [hdr] at hm
     simp only at hm
     show o++(if mg _ q=true then _ else _)=_
     rw [hm,if_neg (by decide)]
     simp [jns]
   have go:∀ x:Str,x=p.Data++D→nx ((j:Int),o++[(api_Piece.mk p.At g x)])=some (jns l):=by
    rintro x rfl
    exact hnx _ ⟨j,rfl,hjl,by simp; omega,hjl'⟩ (by show l.length - Int.toNat _ < l.length - Int.toNat _; rw [Int.toNat_natCast,Int.toNat_natCast]; omega)
   by_cases hd0:0 < ds.length
   ·rw [bif_t (decide_eq_true (by omega)),join0 ds hd0 (by omega),call_some,hD,chk_true (by simp; omega),chk_true (by simp; omega)]
    exact go _ rfl
   ·have:ds=[]:=List.length_eq_zero_iff.1 (by omega)
    rw [bif_f (decide_eq_false (by omega)),chk_true (by simp; omega)]
    subst this
    have:D=[]:=by rw [← hD]; rfl
    exact go _ (by rw [this,List.append_nil])
  by_cases hlt:j < l.length
  ·rw [bif_t (decide_eq_true (by omega)),idx_eq hlt]
   rw [List.drop_eq_getElem_cons hlt] at hjn hend
   have hq:=hl l[j] (List.getElem_mem _)
   generalize hqe:l[j]=q at hq hjn hend ⊢
   have hjq:jn ⟨p.At,g,p.Data++D⟩ (q::l.drop (j+1))=if mg ⟨p.At,g,p.Data++D⟩ q=true then jn (mrg ⟨p.At,g,p.Data++D⟩ q) (l.drop (j+1)) else ⟨p.At,g,p.Data++D⟩::jn q (l.drop (j+1)):=rfl
   rw [hjq] at hjn
   simp only at hend
   by_cases hpe':p.Data=[]
   ·obtain rfl:D=[]:=hpd hpe'
    obtain rfl:ds=[]:=hDn rfl
    rw [decide_eq_true hpe']
    simp only [Bool.true_and,Bool.not_true,Bool.false_and,cond_false]
    by_cases hqd:q.Data=[]
    ·rw [decide_eq_true hqd,Bool.true_and]
     rcases hq.1 with hq1 | ⟨_,q1,q2,q3⟩
     ·exact absurd hqd hq1.1
     rcases hok with hok1 | ⟨_,o1,o2,o3⟩
     ·exact absurd (by simp [hpe']) hok1.1
     simp only at o1 o2 o3
     rw [wrapS (n:=p.At+g) (by omega) (by omega)]
     have hm:mg ⟨p.At,g,p.Data++[]⟩ q=decide (q.At=p.At+g):=by
      unfold mg
      rw [List.append_nil,decide_eq_true hqd,decide_eq_true hpe']
      simp only [Bool.true_and,Bool.not_true,Bool.false_and,Bool.or_false]
     by_cases hc:q.At=p.At+g
     ·rw [decide_eq_true hc,cond_true,wrap1 j (by omega),wrapS (by omega) (by omega)]
      rw [hm,decide_eq_true hc,if_pos rfl] at hjn
      have e:mrg ⟨p.At,g,p.Data++[]⟩ q=⟨p.At,g+q.Long,p.Data++[]⟩:=by unfold mrg; simp [hpe',hqd]
      rw [e] at hjn
      refine hnx' _ ⟨j+1,[],rfl,by omega,by omega,rfl,hjn,?_,fun _=>rfl,rfl,by simp,by simp,fun _=>rfl⟩ (by show l.length - Int.toNat _ < l.length - Int.toNat _; rw [Int.toNat_natCast,Int.toNat_natCast]; omega)
      exact .inr ⟨by simp [hpe'],o1,by simp only; omega,by simp only; omega⟩
     ·rw [decide_eq_false hc,cond_false]
      exact hend (by rw [hm,decide_eq_false hc])
    ·rw [decide_eq_false hqd]
     simp only [Bool.false_and,cond_false]
     refine hend ?_
     unfold mg
     rw [List.append_nil,decide_eq_false hqd,decide_eq_true hpe']; rfl
   ·rw [decide_eq_false hpe']
    simp only [Bool.false_and,cond_false,Bool.not_false,Bool.true_and]
    have hne:decide (p.Data++D=[])=false:=decide_eq_false (by simp [hpe'])
    by_cases hqd:q.Data=[]
    ·rw [decide_eq_true hqd]
     simp only [Bool.not_true,cond_false]
     refine hend ?_
     unfold mg
     rw [hne,decide_eq_true hqd]; rfl
    ·rw [decide_eq_false hqd]
     simp only [Bool.not_false,cond_true]
     rw [chk_true (by simp; omega),wrap1 j (by omega)]
     have hm:mg ⟨p.At,g,p.Data++D⟩ q=true:=by unfold mg; rw [hne,decide_eq_false hqd]; rfl
     rw [hm,if_pos rfl] at hjn
     have e:mrg ⟨p.At,g,p.Data++D⟩ q=⟨p.At,g,p.Data++(D++q.Data)⟩:=by
      unfold mrg
      rw [if_neg (by simp [hpe']),List.append_assoc]
     have hok2:=mrg_ok hok hq.1 hm
     rw [e] at hjn hok2
     refine hnx' _ ⟨j+1,D++q.Data,rfl,by omega,by omega,by simp [hD],hjn,hok2,fun h=>absurd h hpe',by simp [hsum],by simp; omega,by simp; omega,fun h=>by simp [hqd] at h⟩ (by show l.length - Int.toNat _ < l.length - Int.toNat _; rw [Int.toNat_natCast,Int.toNat_natCast]; omega)
  ·rw [bif_f (decide_eq_false (by omega))]
   exact hend (by rw [List.drop_eq_nil_of_le (by omega)]; trivial)
 ·rw [bif_f (decide_eq_false (by omega))]
  rw [hj,List.drop_eq_nil_of_le (by omega)]
  simp [jns]
def pp (p:Pc):Str:=if p.Data=[] then [0]++grpS p.At++grpS p.Long else [1]++grpS (p.Data.length:Int)++p.Data
structure Dok (d:api_Delta):Prop where
 ok:de d=0
 sm:∀ p ∈ d.Pieces,p.Data.length≤1048576
theorem Dok.pok {d:api_Delta} (h:Dok d):∀ p ∈ d.Pieces,Pok d.Old p∧p.Data.length≤1048576:=fun p hp=>⟨(de_ok h.ok).2.2.2.2.2.2.2 p hp,h.sm p hp⟩
theorem slices_refl (l:List Pc):slices_Equal_api_Piece_api_Piece l l=some true:=by
 unfold slices_Equal_api_Piece_api_Piece
 simp only [decide_true,Bool.not_true,cond_false,jp_eq]
 refine forL_run (fun i r _=>l.drop i=r) (fun _ _ _=>some true) (fun _ _ _=>rfl) ?_ l 0 () rfl
 rintro i p r ⟨⟩ nx h hnx
 have hi:i < l.length:=by
  rcases Nat.lt_or_ge i l.length with h' | h'
  ·exact h'
  ·rw [List.drop_eq_nil_of_le h'] at h; cases h
 rw [List.drop_eq_getElem_cons hi] at h
 injection h with h1 h2
 rw [idx_eq hi,h1]
 simp only [decide_true,Bool.and_self,Bool.not_true,cond_false]
 exact hnx _ h2
theorem same_refl (d:api_Delta):Law_sameDelta d d=some true:=by
 unfold Law_sameDelta
 simp only [decide_true,Bool.and_self,slices_refl,callG_some,cond_true,letv]
def patch (a:Str) (d:api_Delta):Str × Int :=
 if (a.length:Int) ≠ d.Old ∨ sumS a ≠ d.OldSum then ([],14) else if sumS (made a d.Pieces) ≠ d.NewSum then ([],14) else (made a d.Pieces,0)
theorem Apply_eq (a:Str) {d:api_Delta} (h:Dok d):delta_Apply a d=some (patch a d):=by
 obtain ⟨o1,o2,n1,n2,s1,s2,l1,hp⟩:=de_ok h.ok
 unfold delta_Apply patch
 rw [Check_eq,call_some,h.ok]
 simp only [decide_true,Bool.not_true,cond_false]
 rw [disk_SumOf_eq,callG_some]
 by_cases h1:(a.length:Int)=d.Old
 ·rw [decide_eq_true h1]
  simp only [Bool.not_true,Bool.not_false,cond_true,Bool.false_or]
  by_cases h2:sumS a=d.OldSum
  ·rw [decide_eq_true h2,if_neg (by simp [h1,h2])]
   simp only [Bool.not_true,cond_false,jp_eq]
   refine (made_loop (by omega) _ _ (by rw [h1]; exact h.pok) l1).trans ?_
   simp only [bs_eq,call_some,disk_SumOf_eq]
   by_cases h3:sumS (made a d.Pieces)=d.NewSum
   ·rw [decide_eq_true h3,if_neg (by simp [h3])]; rfl
   ·rw [decide_eq_false h3,if_pos h3]; rfl
  ·rw [decide_eq_false h2,if_pos (.inr h2)]; rfl
 ·rw [decide_eq_false h1,if_pos (.inl h1)]; rfl
theorem landed_eq:Law_landed=some true:=by decide +kernel
theorem drop_cons {s r:Str} {c:UInt8} {i:Nat} (h:s.drop i=c::r):i < s.length∧s.drop (i+1)=r:=by
 have hl:=congrArg List.length h
 simp only [List.length_drop,List.length_cons] at hl
 refine ⟨by omega,?_⟩
 rw [← List.drop_drop,h]; rfl
def lcp:Str→Str→Nat
 | x::a,y::b=>if x=y then lcp a b+1 else 0
 | _,_=>0
theorem lcp_le:∀ (a b:Str),lcp a b≤a.length∧lcp a b≤b.length∧a.take (lcp a b)=b.take (lcp a b)
 | [],b=>by simp [lcp]
 | x::a,[]=>by simp [lcp]
 | x::a,y::b=>by
  have ih:=lcp_le a b
  simp only [lcp]
  split
  ·rename_i h; subst h
   exact ⟨by simp only [List.length_cons]; omega,by simp only [List.length_cons]; omega,by rw [List.take_succ_cons,List.take_succ_cons,ih.2.2]⟩
  ·simp
def bst (b:Str):Str→Nat→Nat × Nat→Nat × Nat
 | [],_,p=>p
 | x::r,k,p=>bst b r (k+1) (if p.2 < lcp (x::r) b then (k,lcp (x::r) b) else p)
def best (a b:Str):Nat × Nat:=bst b a 0 (0,0)
theorem bst_ok {a b:Str}:∀ (r:Str) (k:Nat) (p:Nat × Nat),a.drop k=r→p.1+p.2≤a.length→p.2≤b.length→(a.drop p.1).take p.2=b.take p.2 →
  (bst b r k p).1+(bst b r k p).2≤a.length∧(bst b r k p).2≤b.length∧(a.drop (bst b r k p).1).take (bst b r k p).2=b.take (bst b r k p).2
 | [],_,_,_,h1,h2,h3=>⟨h1,h2,h3⟩
 | x::r,k,p,hr,h1,h2,h3=>by
  obtain ⟨hi,hd⟩:=drop_cons hr
  have hl:=lcp_le (x::r) b
  have hlen:=congrArg List.length hr
  simp only [List.length_drop,List.length_cons] at hlen hl
  simp only [bst]
  split
  ·exact bst_ok r (k+1) _ hd (by simp only; omega) (by simp only; omega) (by simp only; rw [hr]; exact hl.2.2)
  ·exact bst_ok r (k+1) p hd h1 h2 h3
theorem best_ok (a b:Str):(best a b).1+(best a b).2≤a.length∧(best a b).2≤b.length∧(a.drop (best a b).1).take (best a b).2=b.take (best a b).2 :=
 bst_ok a 0 (0,0) (List.drop_zero) (by simp) (by simp) (by simp)
def dataP (data:Str):List Pc:=if data=[] then [] else [⟨0,0,data⟩]
def mkP (a:Str):Nat→Str→Str→List Pc
 | 0,_,_=>[]
 | n+1,bs,data=>if bs=[] then dataP data else
  if (best a bs).2 < 8 then mkP a n (bs.drop 1) (data++bs.take 1) else
  dataP data++⟨((best a bs).1:Int),((best a bs).2:Int),[]⟩::mkP a n (bs.drop (best a bs).2) []
def piecesOf (a b:Str):List Pc:=mkP a (b.length+1) b []
def psz (p:Pc):Int:=if p.Data=[] then p.Long else (p.Data.length:Int)
def tot (l:List Pc):Int:=(l.map psz).sum
theorem peL_good {old:Int}:∀ (l:List Pc) (n:Int),(∀ p ∈ l,Pok old p)→old≤65536→0≤n→n+tot l≤65536→peL old l n=(n+tot l,0)
 | [],n,_,_,_,h=>by
  simp only [tot,List.map_nil,List.sum_nil,Int.add_zero] at h ⊢
  unfold peL
  rw [decide_eq_false (by omega)]; rfl
 | p::l,n,hp,ho,hn,h=>by
  have ht:tot (p::l)=psz p+tot l:=by simp [tot]
  have h0:∀ l:List Pc,(∀ p ∈ l,Pok old p)→0≤tot l:=by
   intro l hl
   induction l with
   | nil=>simp [tot]
   | cons q l ih =>
    have:=ih fun p hp=>hl p (by simp [hp])
    have hq:0≤psz q:=by
     unfold psz
     rcases hl q (by simp) with ⟨a,_,_⟩ | ⟨a,_,c,_⟩
     ·rw [if_neg a]; omega
     ·rw [if_pos a]; omega
    simp only [tot,List.map_cons,List.sum_cons] at this ⊢
    omega
  have h1:=h0 l fun q hq=>hp q (by simp [hq])
  rw [ht] at h ⊢
  unfold peL
  rcases hp p (by simp) with ⟨a,b,c⟩ | ⟨a,b,c,d⟩
  ·have e:psz p=(p.Data.length:Int):=if_neg a
   rw [decide_eq_false a,b,c]
   simp only [Bool.not_false,cond_true,decide_true,Bool.not_true,Bool.or_self,cond_false]
   rw [wrapS (by omega) (by omega),peL_good l _ (fun q hq=>hp q (by simp [hq])) ho (by omega) (by omega),e]
   congr 1; omega
  ·have e:psz p=p.Long:=if_pos a
   rw [decide_eq_true a,decide_eq_false (show ¬ p.At < 0 by omega),decide_eq_false (show ¬ p.Long < 1 by omega),decide_eq_false (show ¬ old < p.At by omega),decide_eq_false (show ¬ old - p.At < p.Long by omega)]
   simp only [Bool.not_true,cond_false,Bool.or_self]
   rw [wrapS (by omega) (by omega),peL_good l _ (fun q hq=>hp q (by simp [hq])) ho (by omega) (by omega),e]
   congr 1; omega
theorem mkP_ok (a:Str):∀ (n:Nat) (bs data:Str),bs.length < n→(∀ p ∈ mkP a n bs data,Pok a.length p∧p.Data.length≤data.length+bs.length) ∧
  (mkP a n bs data).length≤bs.length+(if data=[] then 0 else 1)∧tot (mkP a n bs data)=((data.length+bs.length:Nat):Int)∧made a (mkP a n bs data)=data++bs:=by
 intro n
 induction n with
 | zero=>intro bs data h; omega
 | succ n ih =>
  intro bs data h
  simp only [mkP]
  have hD:(∀ p ∈ dataP data,Pok a.length p∧p.Data.length≤data.length)∧(dataP data).length=(if data=[] then 0 else 1)∧tot (dataP data)=(data.length:Int)∧made a (dataP data)=data:=by
   unfold dataP
   split
   ·rename_i he
    subst he
    exact ⟨by simp,rfl,rfl,rfl⟩
   ·rename_i he
    refine ⟨?_,rfl,?_,?_⟩
    ·intro p hp
     rw [List.mem_singleton] at hp
     subst hp
     exact ⟨.inl ⟨he,rfl,rfl⟩,Nat.le_refl _⟩
    ·simp [tot,psz,he]
    ·simp [made,pm,he]
  by_cases hb:bs=[]
  ·subst hb
   rw [if_pos rfl]
   obtain ⟨h1,h2,h3,h4⟩:=hD
   exact ⟨fun p hp=>⟨(h1 p hp).1,by have:=(h1 p hp).2; simp; omega⟩,by rw [h2]; simp,by rw [h3]; simp,by rw [h4]; simp⟩
  ·rw [if_neg hb]
   have hl:1≤bs.length:=by
    rcases bs with _ | ⟨x,bs⟩
    ·exact absurd rfl hb
    ·simp
   split
   ·have ht:(bs.take 1).length=1:=by rw [List.length_take]; omega
    obtain ⟨h1,h2,h3,h4⟩:=ih (bs.drop 1) (data++bs.take 1) (by rw [List.length_drop]; omega)
    rw [List.length_append,List.length_drop,ht] at h1
    rw [List.length_drop] at h2
    rw [List.length_append,List.length_drop,ht] at h3
    refine ⟨fun p hp=>⟨(h1 p hp).1,by have:=(h1 p hp).2; omega⟩,?_,by rw [h3]; congr 1; omega,by rw [h4,List.append_assoc,List.take_append_drop]⟩
    refine Nat.le_trans h2 ?_
    split <;> omega
   ·rename_i h8
    obtain ⟨b1,b2,b3⟩:=best_ok a bs
    obtain ⟨h1,h2,h3,h4⟩:=ih (bs.drop (best a bs).2) [] (by rw [List.length_drop]; omega)
    rw [List.length_drop] at h1 h2 h3
    rw [if_pos rfl] at h2
    simp only [List.length_nil,Nat.zero_add] at h1 h3
    obtain ⟨d1,d2,d3,d4⟩:=hD
    refine ⟨?_,?_,?_,?_⟩
    ·intro p hp
     rcases List.mem_append.1 hp with hp | hp
     ·have:=d1 p hp; exact ⟨this.1,by omega⟩
     ·rcases List.mem_cons.1 hp with rfl | hp
      ·exact ⟨.inr ⟨rfl,by simp,by simp only; omega,by simp only; omega⟩,by simp⟩
      ·have:=h1 p hp; exact ⟨this.1,by omega⟩
    ·rw [List.length_append,List.length_cons,d2]
     split <;> omega
    ·have:tot (dataP data++⟨((best a bs).1:Int),((best a bs).2:Int),[]⟩::mkP a n (bs.drop (best a bs).2) [])=tot (dataP data)+((best a bs).2+tot (mkP a n (bs.drop (best a bs).2) [])):=by simp [tot,psz]
     rw [this,d3,h3]; omega
    ·have:made a (dataP data++⟨((best a bs).1:Int),((best a bs).2:Int),[]⟩::mkP a n (bs.drop (best a bs).2) [])=made a (dataP data)++((a.drop (best a bs).1).take (best a bs).2++made a (mkP a n (bs.drop (best a bs).2) [])):=by simp [made,pm]
     rw [this,d4,h4,b3,List.nil_append,List.take_append_drop]
theorem pieces_few (a b:Str) (hb:b.length≤600):(piecesOf a b).length≤600:=by
 obtain ⟨h1,h2,h3,h4⟩:=mkP_ok a (b.length+1) b [] (by omega)
 rw [if_pos rfl] at h2
 unfold piecesOf; omega
theorem Delta_dok (a b:Str) (ha:a.length≤600) (hb:b.length≤600):Dok ⟨(a.length:Int),(b.length:Int),sumS a,sumS b,piecesOf a b⟩:=by
 obtain ⟨h1,h2,h3,h4⟩:=mkP_ok a (b.length+1) b [] (by omega)
 rw [if_pos rfl] at h2
 simp only [List.length_nil,Nat.zero_add] at h1 h3
 have hl:=pieces_few a b hb
 have hp:pe (piecesOf a b) (a.length:Int)=((b.length:Int),0):=by
  unfold pe
  rw [bif_f (by rw [decide_eq_false (by omega),decide_eq_false (by omega)]; rfl),bif_f (decide_eq_false (by omega))]
  have ht:tot (piecesOf a b)=(b.length:Int):=h3
  show peL (a.length:Int) (mkP a (b.length+1) b []) 0=_
  rw [peL_good _ 0 (fun p hp=>(h1 p hp).1) (by omega) (by omega) (by omega),h3,Int.zero_add]
 refine ⟨?_,?_⟩
 ·unfold de
  dsimp only
  rw [hp,isS_sumS,isS_sumS,bif_f (by rw [decide_eq_false (show ¬ ((a.length:Int) < 0) by omega),decide_eq_false (show ¬ ((65536:Int) < (a.length:Int)) by omega),decide_eq_false (show ¬ ((b.length:Int) < 0) by omega),decide_eq_false (show ¬ ((65536:Int) < (b.length:Int)) by omega)]; rfl)]
  simp
 ·intro p hp
  have:=(h1 p hp).2
  omega
theorem short_eq (s:Str):Law_short s=some (s.take 600):=by
 unfold Law_short
 rw [chk_true (by omega)]
 congr 1
 by_cases h:s.length≤600
 ·rw [List.take_of_length_le (by omega),List.take_of_length_le h]
 ·rw [show (min (s.length:Int) 600).toNat=600 by omega]
theorem short_len (s:Str):(s.take 600).length≤600:=by rw [List.length_take]; omega
section
open Go.Sfa
def cvE (l:Ed):List delta_edge:=l.map fun p=>⟨(p.1.toNat:Int),(p.2:Int)⟩
def cvL:Option Nat→Int
 | none=>-1
 | some k=>(k:Int)
def cv1 (s:Ps):delta_state:=⟨(s.lg:Int),(s.fi:Int),cvL s.lk,cvE s.ed⟩
theorem u8_int {a b:UInt8}:(a.toNat:Int)=(b.toNat:Int) ↔ a=b:=⟨fun h=>UInt8.toNat_inj.1 (by omega),fun h=>by rw [h]⟩
theorem next_eq (s:Ps) (c:UInt8):delta_state_next_i1 (cv1 s) (c.toNat:Int)=some (cvL (nxE s.ed c)):=by
 unfold delta_state_next_i1
 rw [jp_eq]
 have key:∀ (l:Ed) (q:Nat),forL (cvE l) q (fun i_15 e_17 s nx_14 k_13 =>
  bif decide (e_17.c=(c.toNat:Int)) then
   some e_17.to
  else
  nx_14 ()) () (fun _=>some (-1))=some (cvL (nxE l c)):=by
  intro l
  induction l with
  | nil=>intro q; rfl
  | cons p l ih =>
   intro q
   rw [show cvE (p::l)=(⟨(p.1.toNat:Int),(p.2:Int)⟩:delta_edge)::cvE l from rfl,nxE_cons]
   unfold forL
   dsimp only
   by_cases h:p.1=c
   ·rw [decide_eq_true (u8_int.2 h),cond_true,if_pos h]; rfl
   ·rw [decide_eq_false (fun k=>h (u8_int.1 k)),cond_false,if_neg h]
    exact ih (q+1)
 exact key s.ed 0
theorem getD_cv (ps:List Ps) {p:Nat} (h:p < ps.length):(ps.map cv1).getD p (delta_state.mk 0 0 0 [])=cv1 (Sfa.st ps p):=by
 simp [List.getD_eq_getElem?_getD,Sfa.st,h]
theorem set_cv (ps:List Ps) (p:Nat) (x:Ps):List.set (ps.map cv1) p (cv1 x)=(ps.set p x).map cv1:=by rw [List.map_set]
theorem setE_step {l:Ed} {c:UInt8} {t q:Nat} (hq:q < l.length) (hne:l[q].1 ≠ c) (h:setE l c t=l.take q++setE (l.drop q) c t):setE l c t=l.take (q+1)++setE (l.drop (q+1)) c t:=by
 rw [h,List.drop_eq_getElem_cons hq]
 simp only [setE,if_neg hne]
 rw [List.take_succ_eq_append_getElem hq,List.append_assoc]
 rfl
theorem set_eq (ps:List Ps) (p:Nat) (c:UInt8) (to:Nat) (hp:p < ps.length) (hl:(Sfa.st ps p).ed.length≤1000000) :
  delta_state_set_i1 p (c.toNat:Int) (to:Int) (ps.map cv1)=some ((ps.set p { Sfa.st ps p with ed:=setE (Sfa.st ps p).ed c to }).map cv1):=by
 unfold delta_state_set_i1
 rw [chk_true (by simpa using hp),jp_eq]
 simp only [getD_cv ps hp]
 generalize hx:Sfa.st ps p=x at *
 obtain ⟨N,hN⟩:∃ N,Fuel=N:=⟨_,rfl⟩
 have hN2:1099511627776≤N:=hN ▸ fuel_ge
 rw [hN]
 clear hN
 have hel:(cv1 x).edges.length=x.ed.length:=by simp [cv1,cvE]
 refine loopN_run (S:=Int) (fun s=>∃ q:Nat,s=q∧q≤x.ed.length∧setE x.ed c to=x.ed.take q++setE (x.ed.drop q) c to) (fun s=>x.ed.length - s.toNat) (fun _=>some ((ps.set p { x with ed:=setE x.ed c to }).map cv1)) ?_ N 0 ⟨0,rfl,by omega,by simp⟩ (by first | omega | (simp only; omega))
 rintro s nx ⟨q,rfl,h1,h2⟩ hnx
 rw [hel]
 by_cases h:q < x.ed.length
 ·have hg:(cv1 x).edges.getD (q:Int).toNat (delta_edge.mk 0 0)=⟨(x.ed[q].1.toNat:Int),(x.ed[q].2:Int)⟩:=by
   simp [cv1,cvE,List.getD_eq_getElem?_getD,h]
  rw [decide_eq_true (by omega),cond_true,chk_true (by omega)]
  simp only [hg]
  by_cases e:x.ed[q].1=c
  ·rw [decide_eq_true (u8_int.2 e),cond_true,chk_true (by omega)]
   show some _=some _
   congr 1
   rw [← set_cv]
   congr 1
   rw [h2,List.drop_eq_getElem_cons h]
   have e2:setE (x.ed[q]::x.ed.drop (q+1)) c to=(c,to)::x.ed.drop (q+1):=by simp [setE,e]
   rw [e2]
   have e3:x.ed.take q++(c,to)::x.ed.drop (q+1)=x.ed.set q (c,to):=by rw [List.set_eq_take_append_cons_drop,if_pos h]
   rw [e3]
   simp [cv1,cvE,List.map_set,e]
  ·rw [decide_eq_false (fun k=>e (u8_int.1 k)),cond_false,wrap1 q (by omega)]
   exact hnx _ ⟨q+1,rfl,by omega,setE_step h e h2⟩ (by simp only [Int.toNat_natCast]; omega)
 ·obtain rfl:q=x.ed.length:=by omega
  rw [decide_eq_false (by omega),cond_false,chk_true (by simp [cv1,cvE]; omega)]
  show some _=some _
  congr 1
  rw [← set_cv]
  congr 1
  rw [h2]
  simp [cv1,cvE,setE]
end
section
open Go.Sfa
def dpt (L:Nat→B):Option Nat→Nat
 | none=>0
 | some p=>(L p).length+1
def mz (L:Nat→B) (i:Int):Nat:=if i < 0 then 0 else (L i.toNat).length+1
theorem mz_cv (L:Nat→B) (po:Option Nat):mz L (cvL po)=dpt L po:=by
 cases po with
 | none=>rfl
 | some p =>
  show mz L (p:Int)=_
  unfold mz
  rw [if_neg (by omega),Int.toNat_natCast]; rfl
section
variable {S Z α:Type}
theorem loopN_good {f:S→(S→Option Z)→(S→Option Z)→Option Z} {k:S→Option Z} (inv:S→Prop) (mu:S→Nat) (G:Option Z→Prop)
  (h:∀ s nx,inv s→(∀ s',inv s'→mu s' < mu s→G (nx s'))→G (f s nx k)):∀ (N:Nat) (s:S),inv s→mu s < N→G (loopN N f s k)
 | 0,s,_,hm=>by omega
 | N+1,s,hi,hm=>by
  unfold loopN
  exact h s _ hi fun s' hs' hlt=>loopN_good inv mu G h N s' hs' (by omega)
theorem forL_good {f:Nat→α→S→(S→Option Z)→(S→Option Z)→Option Z} {k:S→Option Z} (inv:Nat→List α→S→Prop) (G:Option Z→Prop)
  (h0:∀ i s,inv i [] s→G (k s)) (h1:∀ i x l s nx,inv i (x::l) s→(∀ s',inv (i+1) l s'→G (nx s'))→G (f i x s nx k)) :
  ∀ (l:List α) (i:Nat) (s:S),inv i l s→G (forL l i f s k)
 | [],i,s,h=>h0 i s h
 | x::l,i,s,h=>h1 i x l s _ h fun s' hs=>forL_good inv G h0 h1 l (i+1) s' hs
end
theorem cvL_nat (k:Nat):cvL (some k)=(k:Int):=rfl
theorem loop1_eq {w:B} {c:UInt8} {ps0:List Ps} {L:Nat→B} {last n:Nat} {nw:Ps} (h:Inv w (vw ps0) L last) (hn:n=ps0.length) (hnl:n≤100000) (hw:w.length≤100000) (Bn:Nat) (hBn:Bn≤500000) (hed:∀ s,(Sfa.st ps0 s).ed.length≤Bn) (hnw:nw.ed.length≤Bn)
  (N:Nat) (hN2:1099511627776≤N) {Z:Type} (K:Int × List delta_state→Option Z) (G:Option Z→Prop)
  (hK:∀ po ps,W1 w c ps0 L nw po ps→(∀ p,po=some p→(nxE (Sfa.st ps p).ed c).isSome=true)→(∀ s,(Sfa.st ps s).ed.length≤Bn+w.length+1)→G (K (cvL po,ps.map cv1))) :
 G <| loopN N (fun s nx_404 k_403 =>
  match s with
  | (p_389,o1_390) =>
   chk ((decide (0≤p_389))=true→(0≤p_389∧p_389 < (o1_390.length:Int))) <|
   callG (decide (0≤p_389)) (delta_state_next_i1 (o1_390.getD p_389.toNat (delta_state.mk 0 0 0 [])) (c.toNat:Int)) 0 fun r_406 =>
   bif ((decide (0≤p_389)) && (decide (r_406 < 0))) then
    chk (0≤p_389∧p_389 < (o1_390.length:Int)) <|
    call (delta_state_set_i1 p_389.toNat (c.toNat:Int) (n:Int) o1_390) fun r_414 =>
    chk (0≤p_389∧p_389 < (r_414.length:Int)) <|
    nx_404 ((r_414.getD p_389.toNat (delta_state.mk 0 0 0 [])).link,r_414)
   else
   k_403 (p_389,o1_390)) ((last:Int),(ps0++[nw]).map cv1) (fun s=>match s with
  | (p_389,o1_390) =>
   K (p_389,o1_390)):=by
 have hlw:L last=w:=h.last.2
 have hl0:last < ps0.length:=h.last.1
 refine loopN_good (S:=Int × List delta_state) (fun s=>∃ (po:Option Nat) (ps:List Ps),s=(cvL po,ps.map cv1)∧W1 w c ps0 L nw po ps∧∀ s,(Sfa.st ps s).ed.length+dpt L po≤Bn+w.length+1) (fun s=>mz L s.1) G ?_ N ((last:Int),(ps0++[nw]).map cv1) ⟨some last,ps0++[nw],rfl,.start h nw,fun s=>?_⟩ ?_
 ·rintro _ nx ⟨po,ps,rfl,k,hb⟩ hnx
  dsimp only at hnx ⊢
  cases po with
  | none =>
   rw [show cvL none=(-1:Int) from rfl,show decide ((0:Int)≤-1)=false from rfl,chk_true (fun h=>by cases h),callG_false,Bool.false_and,cond_false]
   exact hK none ps k (fun p e=>by cases e) fun s=>by have:=hb s; omega
  | some p =>
   obtain ⟨hp,hpw⟩:=k.at_ p rfl
   have hpl:p < ps.length:=by rw [k.len]; omega
   rw [cvL_nat,decide_eq_true (by omega),chk_true (fun _=>by simp; omega),callG_true,Int.toNat_natCast,getD_cv ps hpl,next_eq,call_some,Bool.true_and]
   cases hq:nxE (Sfa.st ps p).ed c with
   | some q =>
    rw [cvL_nat,decide_eq_false (by omega),cond_false]
    exact hK (some p) ps k (fun p' e=>by cases e; rw [hq]; rfl) fun s=>by have:=hb s; omega
   | none =>
    rw [show decide (cvL none < 0)=true from rfl,cond_true,chk_true (by simp; omega)]
    have hbp:=hb p
    rw [set_eq ps p c n hpl (by omega),call_some,chk_true (by simp; omega)]
    subst hn
    have k2:=k.next h hq
    have hst:Sfa.st (ps.set p { Sfa.st ps p with ed:=setE (Sfa.st ps p).ed c ps0.length }) p={ Sfa.st ps p with ed:=setE (Sfa.st ps p).ed c ps0.length }:=by rw [st_set ps _ hpl,if_pos rfl]
    rw [getD_cv _ (by simp; omega),hst]
    have hd:dpt L (Sfa.st ps p).lk+1≤dpt L (some p):=by
     cases e:(Sfa.st ps p).lk with
     | none=>simp [dpt]
     | some r =>
      rw [k.lk p hp] at e
      have:=((chain_next h hp hpw).1 r e).2.2
      simp only [dpt]; omega
    refine hnx _ ⟨(Sfa.st ps p).lk,_,rfl,k2,fun s=>?_⟩ ?_
    ·rw [st_set ps _ hpl]
     split
     ·have:=setE_len (Sfa.st ps p).ed c ps0.length
      have:=hb p
      simp only; omega
     ·have:=hb s; omega
    ·show mz L (cvL (Sfa.st ps p).lk) < mz L (cvL (some p))
     rw [mz_cv,mz_cv]; omega
 ·simp only [dpt]
  rw [st_app,hlw]
  split
  ·omega
  ·have:=hed s; omega
 ·show mz L (cvL (some last)) < N
  rw [mz_cv]; simp only [dpt]; rw [hlw]; omega
theorem loop2_eq {w:B} {c:UInt8} {ps0 ps1:List Ps} {L:Nat→B} {last p q hf:Nat} {nw cl:Ps} (h:Inv w (vw ps0) L last) (k1:W1 w c ps0 L nw (some p) ps1) (hq0:nxE (Sfa.st ps1 p).ed c=some q) (hn:hf=ps0.length+1) (hnl:ps0.length≤100000) (hw:w.length≤100000) (Bn:Nat) (hBn:Bn≤800000) (hed:∀ s,(Sfa.st (ps1++[cl]) s).ed.length≤Bn)
  (N:Nat) (hN2:1099511627776≤N) {Z:Type} (K:Int × List delta_state→Option Z) (G:Option Z→Prop)
  (hK:∀ po ps,W2 w c ps0 ps1 L p q cl po ps→(∀ p',po=some p'→nxE (Sfa.st ps p').ed c ≠ some q)→(∀ s,(Sfa.st ps s).ed.length≤Bn+w.length+1)→G (K (cvL po,ps.map cv1))) :
 G <| loopN N (fun s nx_363 k_362 =>
    match s with
    | (p_348,o1_349) =>
     chk ((decide (0≤p_348))=true→(0≤p_348∧p_348 < (o1_349.length:Int))) <|
     callG (decide (0≤p_348)) (delta_state_next_i1 (o1_349.getD p_348.toNat (delta_state.mk 0 0 0 [])) (c.toNat:Int)) 0 fun r_365 =>
     bif ((decide (0≤p_348)) && (decide (r_365=(q:Int)))) then
      chk (0≤p_348∧p_348 < (o1_349.length:Int)) <|
      call (delta_state_set_i1 p_348.toNat (c.toNat:Int) (hf:Int) o1_349) fun r_373 =>
      chk (0≤p_348∧p_348 < (r_373.length:Int)) <|
      nx_363 ((r_373.getD p_348.toNat (delta_state.mk 0 0 0 [])).link,r_373)
     else
     k_362 (p_348,o1_349)) ((p:Int),(ps1++[cl]).map cv1) (fun s=>match s with
    | (p_348,o1_349) =>
     K (p_348,o1_349)):=by
 obtain ⟨hp0,hpw0⟩:=k1.at_ p rfl
 have hpl0:(L p).length≤w.length:=hpw0.length_le
 refine loopN_good (S:=Int × List delta_state) (fun s=>∃ (po:Option Nat) (ps:List Ps),s=(cvL po,ps.map cv1)∧W2 w c ps0 ps1 L p q cl po ps∧∀ s,(Sfa.st ps s).ed.length+dpt L po≤Bn+w.length+1) (fun s=>mz L s.1) G ?_ N ((p:Int),(ps1++[cl]).map cv1) ⟨some p,ps1++[cl],rfl,.start h k1 cl,fun s=>?_⟩ ?_
 ·rintro _ nx ⟨po,ps,rfl,k,hb⟩ hnx
  dsimp only at hnx ⊢
  cases po with
  | none =>
   rw [show cvL none=(-1:Int) from rfl,show decide ((0:Int)≤-1)=false from rfl,chk_true (fun h=>by cases h),callG_false,Bool.false_and,cond_false]
   exact hK none ps k (fun p e=>by cases e) fun s=>by have:=hb s; omega
  | some p' =>
   obtain ⟨hp,hpw,_⟩:=k.at_ p' rfl
   have hpl:p' < ps.length:=by rw [k.len]; omega
   rw [cvL_nat,decide_eq_true (by omega),chk_true (fun _=>by simp; omega),callG_true,Int.toNat_natCast,getD_cv ps hpl,next_eq,call_some,Bool.true_and]
   by_cases hq:nxE (Sfa.st ps p').ed c=some q
   ·rw [hq,cvL_nat,decide_eq_true rfl,cond_true,chk_true (by simp; omega)]
    have hbp:=hb p'
    rw [set_eq ps p' c hf hpl (by omega),call_some,chk_true (by simp; omega)]
    subst hn
    have k2:=k.next h k1 hq
    have hst:Sfa.st (ps.set p' { Sfa.st ps p' with ed:=setE (Sfa.st ps p').ed c (ps0.length+1) }) p'={ Sfa.st ps p' with ed:=setE (Sfa.st ps p').ed c (ps0.length+1) }:=by rw [st_set ps _ hpl,if_pos rfl]
    rw [getD_cv _ (by simp; omega),hst]
    have hd:dpt L (Sfa.st ps p').lk+1≤dpt L (some p'):=by
     cases e:(Sfa.st ps p').lk with
     | none=>simp [dpt]
     | some r =>
      rw [k.lk p' hp] at e
      have:=((chain_next h hp hpw).1 r e).2.2
      simp only [dpt]; omega
    refine hnx _ ⟨(Sfa.st ps p').lk,_,rfl,k2,fun s=>?_⟩ ?_
    ·rw [st_set ps _ hpl]
     split
     ·have:=setE_len (Sfa.st ps p').ed c (ps0.length+1)
      have:=hb p'
      simp only; omega
     ·have:=hb s; omega
    ·show mz L (cvL (Sfa.st ps p').lk) < mz L (cvL (some p'))
     rw [mz_cv,mz_cv]; omega
   ·have hne:cvL (nxE (Sfa.st ps p').ed c) ≠ (q:Int):=by
     intro e
     cases e2:nxE (Sfa.st ps p').ed c with
     | none=>rw [e2] at e; simp only [cvL] at e; omega
     | some r =>
      rw [e2] at e hq
      simp only [cvL] at e
      exact hq (congrArg some (by omega))
    rw [decide_eq_false hne,cond_false]
    exact hK (some p') ps k (fun p2 e=>by cases e; exact hq) fun s=>by have:=hb s; omega
 ·simp only [dpt]
  have:=hed s; omega
 ·show mz L (cvL (some p)) < N
  rw [mz_cv]; simp only [dpt]; omega
end
section
open Go.Sfa
theorem letv_eq {A Z:Type} (a:A) (k:A→Option Z):letv a k=k a:=rfl
theorem jp_good {S Z:Type} {F:S→Option Z} {m:(S→Option Z)→Option Z} {G:Option Z→Prop} (h:∀ K,(∀ s,K s=F s)→G (m K)):G (jp F m):=h F fun _=>rfl
theorem lnk_cv (ps:List Ps) {s t:Nat} (hs:s < ps.length) :
  List.set (ps.map cv1) s (delta_state.mk (((ps.map cv1).getD s (delta_state.mk 0 0 0 [])).long) (((ps.map cv1).getD s (delta_state.mk 0 0 0 [])).end_) (t:Int) (((ps.map cv1).getD s (delta_state.mk 0 0 0 [])).edges))=(lnk ps s t).map cv1:=by
 rw [getD_cv ps hs]
 exact set_cv ps s { Sfa.st ps s with lk:=some t }
theorem add_eq {w:B} {c:UInt8} {ps0:List Ps} {L:Nat→B} {last:Nat} (h:Inv w (vw ps0) L last) (hnl:ps0.length≤2 * w.length+1) (hw:w.length < 600) (hed:∀ s,(Sfa.st ps0 s).ed.length≤w.length * (w.length+1)) :
  ∃ ps' L',delta_automaton_add_i1 (c.toNat:Int) ((w.length+1:Nat):Int) (last:Int) (ps0.map cv1)=some ((ps0.length:Int),ps'.map cv1)∧Inv (w++[c]) (vw ps') L' ps0.length∧ps'.length≤ps0.length+2∧∀ s,(Sfa.st ps' s).ed.length≤(w.length+1) * (w.length+2):=by
 let G:Option (Int × List delta_state)→Prop:=fun r=>∃ ps' L',r=some ((ps0.length:Int),ps'.map cv1)∧Inv (w++[c]) (vw ps') L' ps0.length∧ps'.length≤ps0.length+2∧∀ s,(Sfa.st ps' s).ed.length≤(w.length+1) * (w.length+2)
 have hq1:w.length * (w.length+1)≤600 * 600:=Nat.mul_le_mul (by omega) (by omega)
 have hq2:w.length * (w.length+1)+w.length+1+w.length+1=(w.length+1) * (w.length+2):=by
  generalize w.length=n
  rw [Nat.add_mul,Nat.mul_add,Nat.mul_add]; omega
 obtain ⟨N,hN⟩:∃ N,Fuel=N:=⟨_,rfl⟩
 have hN2:1099511627776≤N:=hN ▸ fuel_ge
 show G (delta_automaton_add_i1 _ _ _ _)
 unfold delta_automaton_add_i1
 rw [hN]
 clear hN
 have e0:ps0.map cv1++[(delta_state.mk ((w.length+1:Nat):Int) ((w.length+1:Nat):Int) 0 [])]=(ps0++[nwS w 0]).map cv1:=by
  rw [List.map_append]; rfl
 rw [e0,chk_true (by simp; omega),letv_eq,List.length_map]
 refine jp_good fun K hK=>?_
 refine loop1_eq (c:=c) (nw:=nwS w 0) h rfl (by omega) (by omega) (w.length * (w.length+1)) (by omega) hed (show 0≤_ from Nat.zero_le _) N hN2 K G fun po ps k hpo hb=>?_
 rw [hK]
 dsimp only
 have hpsl:=k.len
 cases po with
 | none =>
  rw [show decide (cvL none < 0)=true from rfl,cond_true]
  exact ⟨ps,_,rfl,k.endNone h,by omega,fun s=>by have:=hb s; omega⟩
 | some p =>
  obtain ⟨hp,hpw⟩:=k.at_ p rfl
  have hpl:p < ps.length:=by omega
  obtain ⟨q,hq⟩:=Option.isSome_iff_exists.1 (hpo p rfl)
  have hq0:nxE (Sfa.st ps0 p).ed c=some q:=(k.below h hq).1
  have hqn:q < ps0.length:=(h.nx p c q hp hq0).1
  have hql:q < ps.length:=by omega
  have hlgp:(Sfa.st ps p).lg=(L p).length:=(k.lg p hp).trans (h.lg p hp)
  have hlpw:=hpw.length_le
  rw [cvL_nat,decide_eq_false (by omega),cond_false,chk_true (by simp; omega)]
  simp only [Int.toNat_natCast,getD_cv ps hpl]
  rw [next_eq,hq,call_some,cvL_nat,chk_true (by simp; omega),chk_true (by simp; omega)]
  simp only [Int.toNat_natCast,getD_cv ps hql]
  have e1:IntKind.i64.wrap ((cv1 (Sfa.st ps p)).long+1)=(((Sfa.st ps p).lg+1:Nat):Int):=wrap1 _ (by omega)
  simp only [e1]
  by_cases hlg:(Sfa.st ps q).lg=(Sfa.st ps p).lg+1
  ·rw [decide_eq_true (show (cv1 (Sfa.st ps q)).long=_ from congrArg Nat.cast hlg),cond_true,chk_true (by simp; omega),letv_eq]
   refine ⟨ps.set ps0.length (nwS w q),_,?_,k.endA h hq hlg hqn,by simp; omega,fun s=>?_⟩
   ·congr 2
    rw [getD_cv ps (by omega),k.new]
    exact set_cv ps ps0.length (nwS w q)
   ·rw [st_set _ _ (by omega)]
    split
    ·exact Nat.zero_le _
    ·have:=hb s; omega
  ·rw [decide_eq_false (show ¬ (cv1 (Sfa.st ps q)).long=_ from fun e=>hlg (Int.ofNat_inj.1 e)),cond_false,chk_true (by simp; omega),chk_true (by simp; omega)]
   have hbq:=hb q
   rw [chk_true (by simp [cv1,cvE]; omega)]
   have e2:ps.map cv1++[(delta_state.mk (((Sfa.st ps p).lg+1:Nat):Int) ((cv1 (Sfa.st ps q)).end_) ((cv1 (Sfa.st ps q)).link) ([]++((cv1 (Sfa.st ps q)).edges)))]=(ps++[cln ps p q]).map cv1:=by
    rw [List.map_append]; rfl
   rw [e2,chk_true (by simp; omega),letv_eq,List.length_map]
   refine jp_good fun K2 hK2=>?_
   refine loop2_eq (c:=c) h k hq hpsl (by omega) (by omega) (w.length * (w.length+1)+w.length+1) (by omega) (fun s=>?_) N hN2 (fun s=>K2 s.2) G fun po2 ps2 k2 hpo2 hb2=>?_
   ·rw [st_app]
    split
    ·exact hbq
    ·exact hb s
   ·dsimp only
    rw [hK2]
    have hl2:=k2.len
    rw [chk_true (by simp; omega),letv_eq,hpsl,lnk_cv ps2 (t:=ps0.length+1) (by omega)]
    have hll:(lnk ps2 q (ps0.length+1)).length=ps2.length:=by simp [lnk]
    rw [chk_true (by simp; omega),letv_eq,lnk_cv (lnk ps2 q (ps0.length+1)) (t:=ps0.length+1) (by omega)]
    refine ⟨lnk (lnk ps2 q (ps0.length+1)) ps0.length (ps0.length+1),_,rfl,k2.endB h k hq hqn hlg hpo2,by simp [lnk]; omega,fun s=>?_⟩
    obtain ⟨_,_,a3,_⟩:=lnk_st (lnk ps2 q (ps0.length+1)) (s:=ps0.length) (t:=ps0.length+1) (by omega) s
    obtain ⟨_,_,b3,_⟩:=lnk_st ps2 (s:=q) (t:=ps0.length+1) (by omega) s
    rw [a3,b3]
    have:=hb2 s
    omega
end
section
open Go.Sfa
theorem newAutomaton_eq (a:Str) (ha:a.length≤600):∃ ps L last,delta_newAutomaton a=some (ps.map cv1,((last:Nat):Int))∧Inv a (vw ps) L last∧ps.length≤2 * a.length+1:=by
 let G:Option (List delta_state × Int)→Prop:=fun r=>∃ ps L last,r=some (ps.map cv1,((last:Nat):Int))∧Inv a (vw ps) L last∧ps.length≤2 * a.length+1
 show G (delta_newAutomaton a)
 unfold delta_newAutomaton
 rw [letv_eq]
 refine jp_good fun K hK=>?_
 refine forL_good (S:=List delta_state × Int) (fun i l s=>∃ w ps L last,a=w++l∧i=w.length∧s=(ps.map cv1,((last:Nat):Int))∧Inv w (vw ps) L last∧ps.length≤2 * w.length+1∧∀ s,(Sfa.st ps s).ed.length≤w.length * (w.length+1)) G ?_ ?_ a 0 ([delta_state.mk 0 0 (-1) []],0) ⟨[],[s00],fun _=>[],0,rfl,rfl,rfl,.init,Nat.le_refl _,fun s=>?_⟩
 ·rintro i _ ⟨w,ps,L,last,e,_,rfl,h,hl,_⟩
  rw [List.append_nil] at e
  subst e
  dsimp only
  rw [hK]
  exact ⟨ps,L,last,rfl,h,hl⟩
 ·rintro i c l _ nx ⟨w,ps,L,last,e,rfl,rfl,h,hl,hb⟩ hnx
  have hw:w.length < 600:=by rw [e] at ha; simp at ha; omega
  obtain ⟨ps',L',e1,h',hl',hb'⟩:=add_eq (c:=c) h hl hw hb
  dsimp only
  rw [wrap1 _ (by omega)]
  rw [e1,call_some]
  exact hnx _ ⟨w++[c],ps',L',ps.length,by rw [e]; simp,by simp,rfl,h',by simp; omega,by simpa using hb'⟩
 ·have:Sfa.st [s00] s=s00:=by
   cases s with
   | zero=>rfl
   | succ s=>rfl
  rw [this]
  exact Nat.zero_le _
theorem longest_eq {a:Str} {ps:List Ps} {L:Nat→B} {last:Nat} (h:Inv a (vw ps) L last) (ha:a.length≤600) (t:Str) (ht:t.length≤600) (x:Int) :
  delta_automaton_longest_i1 t x (ps.map cv1)=some (((Sfa.bst a t).1:Int),((Sfa.bst a t).2:Int)):=by
 unfold delta_automaton_longest_i1
 rw [jp_eq]
 obtain ⟨N,hN⟩:∃ N,Fuel=N:=⟨_,rfl⟩
 have hN2:1099511627776≤N:=hN ▸ fuel_ge
 rw [hN]
 clear hN
 refine loopN_run (S:=Int × Int) (fun s=>∃ m q:Nat,s=((m:Int),(q:Int))∧m≤t.length∧q < ps.length∧Top a (t.take m) (L q)) (fun s=>t.length - s.1.toNat) (fun _=>some (((Sfa.bst a t).1:Int),((Sfa.bst a t).2:Int))) ?_ N (0,0) ⟨0,0,rfl,by omega,h.pos,by simpa using top0 h⟩ (by simp only; omega)
 rintro _ nx ⟨m,q,rfl,hm,hq,htop⟩ hnx
 dsimp only
 have fin:(m=t.length ∨ ¬ Fc a (t.take (m+1)))→(chk (0≤(q:Int)∧(q:Int) < ((ps.map cv1).length:Int)) <| some (IntKind.i64.wrap ((((ps.map cv1).getD (q:Int).toNat (delta_state.mk 0 0 0 [])).end_) - (m:Int)),(m:Int)))=some (((Sfa.bst a t).1:Int),((Sfa.bst a t).2:Int)):=by
  intro hn
  rw [chk_true (by simp; omega)]
  have hf:=htop.first (h.fi q hq)
  obtain ⟨h1,h2⟩:=bst_walk hm hf hn
  have h3:=hf.1.1
  simp only [Int.toNat_natCast,getD_cv ps hq,h2]
  have h4:(cv1 (Sfa.st ps q)).end_=((vw ps).fi q:Int):=rfl
  rw [h4,wrapS (by omega) (by omega)]
  congr 2
  omega
 by_cases hc:m < t.length
 ·rw [decide_eq_true (by omega),cond_true,chk_true (by simp; omega),idxS_eq hc]
  simp only [Int.toNat_natCast,getD_cv ps hq]
  rw [next_eq,call_some]
  have htk:t.take (m+1)=t.take m++[t[m]]:=List.take_succ_eq_append_getElem hc
  cases hx:nxE (Sfa.st ps q).ed t[m] with
  | none =>
   rw [show decide (cvL none < 0)=true from rfl,cond_true]
   have fin2:=fin (.inr ?_)
   ·simpa only [Int.toNat_natCast,getD_cv ps hq] using fin2
   rw [htk]
   exact htop.no (h.nx0 q _ hq hx)
  | some r =>
   obtain ⟨hr,htr⟩:=h.nx q _ r hq hx
   rw [cvL_nat,decide_eq_false (by omega),cond_false,wrap1 m (by omega)]
   refine hnx _ ⟨m+1,r,rfl,hc,hr,?_⟩ (by simp only [Int.toNat_natCast]; omega)
   rw [htk]
   exact htop.go htr
 ·rw [decide_eq_false (by omega),cond_false]
  exact fin (.inl (by omega))
end
section
open Go.Sfa
theorem lcp_cpl:∀ a b:Str,lcp a b=cpl a b
 | [],b=>by simp [lcp,cpl]
 | x::a,[]=>by simp [lcp,cpl]
 | x::a,y::b=>by
  simp only [lcp,cpl]
  rw [lcp_cpl a b]
theorem bst_scan {a b:Str}:∀ (r:Str) (k:Nat),a.drop k=r→Go.Md.bst b r k (scan a b k)=scan a b (k+r.length)
 | [],k,_=>rfl
 | x::r,k,h=>by
  obtain ⟨hi,hd⟩:=drop_cons h
  have:=bst_scan (b:=b) r (k+1) hd
  simp only [Go.Md.bst,List.length_cons]
  rw [show k+(r.length+1)=k+1+r.length by omega,← this]
  simp only [scan]
  rw [h,lcp_cpl]
theorem best_bst (a b:Str):best a b=Sfa.bst a b:=by
 have:=bst_scan (b:=b) a 0 List.drop_zero
 unfold best Sfa.bst
 rw [Nat.zero_add] at this
 exact this
theorem take_snoc (b:Str) {f j:Nat} (h:f≤j) (hj:j < b.length):(b.drop f).take (j - f)++(b.drop j).take 1=(b.drop f).take (j+1 - f):=by
 have e:(b.drop j).take 1=((b.drop f).drop (j - f)).take 1:=by rw [List.drop_drop,Nat.add_sub_cancel' h]
 rw [e,show j+1 - f=(j - f)+1 by omega,List.take_add]
theorem dataP_cut (b:Str) {f j:Nat} (h:f≤j) (hj:j≤b.length):dataP ((b.drop f).take (j - f))=if f < j then [⟨0,0,(b.drop f).take (j - f)⟩] else []:=by
 unfold dataP
 have hl:((b.drop f).take (j - f)).length=j - f:=by simp; omega
 by_cases e:f < j
 ·rw [if_pos e,if_neg fun h=>by rw [h] at hl; simp at hl; omega]
 ·rw [if_neg e,if_pos (List.length_eq_zero_iff.1 (by omega))]
theorem make_loop {Z:Type} (a b:Str) (ha:a.length≤600) (hb:b.length≤600) {ps:List Ps} {L:Nat→B} {last:Nat} (h:Inv a (vw ps) L last) (K:Int × List Pc→Option Z) (R:List Pc→Option Z)
  (hK:∀ (f:Nat) o,f≤b.length→o.length≤b.length→K ((f:Int),o)=R (o++dataP ((b.drop f).take (b.length - f)))):∀ (n N j f:Nat) (o:List Pc),n≤N→b.length - j < n→j≤b.length→f≤j→o.length≤f →
 loopN N (fun s nx_99 k_98 =>
  match s with
  | (from_86,at_87,o5_88) =>
   bif decide (at_87 < (b.length:Int)) then
    chk (0≤at_87∧at_87≤(b.length:Int)) <|
    call (delta_automaton_longest_i1 (List.drop at_87.toNat b) (last:Int) (ps.map cv1)) fun r_101 =>
    bif decide (r_101.2 < 8) then
     nx_99 (from_86,IntKind.i64.wrap (at_87+1),o5_88)
    else
    jp (S:=List api_Piece) (fun o5_104 =>
     chk ((o5_104++[(api_Piece.mk r_101.1 r_101.2 [])]).length≤274877906944) <|
     nx_99 (IntKind.i64.wrap (at_87+r_101.2),IntKind.i64.wrap (at_87+r_101.2),o5_104++[(api_Piece.mk r_101.1 r_101.2 [])])) fun k_105 =>
    bif decide (from_86 < at_87) then
     chk (0≤from_86∧from_86≤(b.length:Int)∧0≤at_87∧at_87≤(b.length:Int)∧from_86≤at_87) <|
     chk ((o5_88++[(api_Piece.mk 0 0 (List.take (at_87.toNat - from_86.toNat) (List.drop from_86.toNat b)))]).length≤274877906944) <|
     k_105 (o5_88++[(api_Piece.mk 0 0 (List.take (at_87.toNat - from_86.toNat) (List.drop from_86.toNat b)))])
    else
    k_105 o5_88
   else
   k_98 (from_86,at_87,o5_88)) ((f:Int),(j:Int),o) (fun s=>match s with
  | (from_86,at_87,o5_88) =>
   K (from_86,o5_88))=R (o++mkP a n (b.drop j) ((b.drop f).take (j - f))):=by
 intro n
 induction n with
 | zero=>intro N j f o _ h; omega
 | succ n ih =>
  intro N j f o hN hj hjb hf ho
  obtain ⟨N,rfl⟩:∃ N',N=N'+1:=⟨N - 1,by omega⟩
  unfold loopN
  dsimp only
  by_cases hlt:j < b.length
  rotate_left
  ·obtain rfl:j=b.length:=by omega
   rw [decide_eq_false (by omega),cond_false]
   simp only [mkP]
   rw [if_pos (List.drop_eq_nil_of_le (by omega)),hK f o hf (by omega)]
  ·rw [decide_eq_true (by omega),cond_true,chk_true (by omega)]
   simp only [Int.toNat_natCast]
   rw [longest_eq h ha (b.drop j) (by simp; omega),call_some]
   have hne:¬ b.drop j=[]:=by rw [List.drop_eq_nil_iff]; omega
   have hb':=best_ok a (b.drop j)
   rw [List.length_drop] at hb'
   simp only [mkP]
   rw [if_neg hne,← best_bst]
   generalize best a (b.drop j)=p at hb' ⊢
   obtain ⟨at_,long⟩:=p
   dsimp only at hb' ⊢
   by_cases h8:long < 8
   ·rw [decide_eq_true (by omega),cond_true,if_pos h8,wrap1 j (by omega),take_snoc b hf hlt,List.drop_drop]
    exact ih N (j+1) f o (by omega) (by omega) (by omega) (by omega) ho
   ·rw [decide_eq_false (by omega),cond_false,if_neg h8,jp_eq,wrapS (by omega) (by omega),show (j:Int)+(long:Int)=((j+long:Nat):Int) by omega,List.drop_drop,dataP_cut b hf hjb]
    have z:(b.drop (j+long)).take (j+long - (j+long))=[]:=by simp
    by_cases he:f < j
    ·rw [if_pos he,decide_eq_true (by omega),cond_true,chk_true (by omega),chk_true (by simp; omega)]
     dsimp only
     rw [chk_true (by simp; omega)]
     refine (ih N (j+long) (j+long) ((o++[⟨0,0,(b.drop f).take (j - f)⟩])++[⟨at_,long,[]⟩]) (by omega) (by omega) (by omega) (by omega) (by simp; omega)).trans ?_
     rw [z]; simp
    ·rw [if_neg he,decide_eq_false (by omega),cond_false]
     dsimp only
     rw [chk_true (by simp; omega)]
     refine (ih N (j+long) (j+long) (o++[⟨at_,long,[]⟩]) (by omega) (by omega) (by omega) (by omega) (by simp; omega)).trans ?_
     rw [z]; simp
theorem Make_eq (a b:Str) (ha:a.length≤600) (hb:b.length≤600):delta_Make a b=some (⟨(a.length:Int),(b.length:Int),sumS a,sumS b,piecesOf a b⟩,0):=by
 unfold delta_Make
 rw [bif_f (by rw [decide_eq_false (by omega),decide_eq_false (by omega)]; rfl),disk_SumOf_eq,call_some,disk_SumOf_eq,call_some]
 obtain ⟨ps,L,last,e,h,_⟩:=newAutomaton_eq a ha
 rw [e,call_some]
 obtain ⟨N,hN⟩:∃ N,Fuel=N:=⟨_,rfl⟩
 have hN2:1099511627776≤N:=hN ▸ fuel_ge
 rw [hN]
 clear hN
 obtain ⟨h1,h2,h3,h4⟩:=mkP_ok a (b.length+1) b [] (by omega)
 rw [if_pos rfl] at h2
 have hl:(piecesOf a b).length≤600:=by unfold piecesOf; omega
 rw [jp_eq]
 dsimp only
 have:=make_loop a b ha hb h (fun s=>jp (S:=List api_Piece) (fun o5_58 =>
    bif decide (5000 < (o5_58.length:Int)) then
     some ((api_Delta.mk 0 0 [] [] []),4)
    else
    some ((api_Delta.mk (a.length:Int) (b.length:Int) (sumS a) (sumS b) o5_58),0)) fun k_59 =>
   bif decide (s.1 < (b.length:Int)) then
    chk (0≤s.1∧s.1≤(b.length:Int)) <|
    chk ((s.2++[(api_Piece.mk 0 0 (List.drop s.1.toNat b))]).length≤274877906944) <|
    k_59 (s.2++[(api_Piece.mk 0 0 (List.drop s.1.toNat b))])
   else
   k_59 s.2) (fun l=>bif decide (5000 < (l.length:Int)) then
     some ((api_Delta.mk 0 0 [] [] []),4)
    else
    some ((api_Delta.mk (a.length:Int) (b.length:Int) (sumS a) (sumS b) l),(0:Int))) (fun f o hf ho=>?_) (b.length+1) N 0 0 [] (by omega) (by omega) (by omega) (by omega) (by simp)
 ·refine this.trans ?_
  rw [List.nil_append,List.drop_zero,show List.take (0 - 0) b=[] from rfl,show mkP a (b.length+1) b []=piecesOf a b from rfl,decide_eq_false (by omega),cond_false]
 ·dsimp only
  rw [jp_eq,dataP_cut b hf (Nat.le_refl _)]
  by_cases e:f < b.length
  ·rw [decide_eq_true (by omega),cond_true,if_pos e,chk_true (by omega),chk_true (by simp; omega)]
   simp only [Int.toNat_natCast]
   rw [show List.take (b.length - f) (List.drop f b)=List.drop f b from List.take_of_length_le (by simp)]
  ·rw [decide_eq_false (by omega),cond_false,if_neg e,List.append_nil]
end
def mkD (a b:Str):api_Delta:=⟨(a.length:Int),(b.length:Int),sumS a,sumS b,piecesOf a b⟩
theorem mkD_ok {a b:Str} (ha:a.length≤600) (hb:b.length≤600):Dok (mkD a b):=Delta_dok a b ha hb
theorem mkD_made (a b:Str):made a (mkD a b).Pieces=b:=by
 obtain ⟨_,_,_,h4⟩:=mkP_ok a (b.length+1) b [] (by omega)
 exact h4
theorem tot_le {old:Int} (ho:old≤65536):∀ (l:List Pc) (n:Int),(∀ p ∈ l,Pok old p∧p.Data.length≤1048576)→0≤n→n+1048576 * (l.length:Int)≤4611686018427387904→(peL old l n).2=0→0≤tot l∧n+tot l≤65536
 | [],n,_,h0,_,h=>by
  unfold peL at h
  by_cases hc:65536 < n
  ·rw [decide_eq_true hc] at h; cases h
  ·simp [tot]; omega
 | p::l,n,hp,h0,h1,h=>by
  have ht:tot (p::l)=psz p+tot l:=by simp [tot]
  obtain ⟨hp1,hp2⟩:=hp p (by simp)
  have hl:((p::l).length:Int)=(l.length:Int)+1:=by simp
  rw [hl] at h1
  have hq:0≤psz p∧psz p≤1048576:=by
   unfold psz
   rcases hp1 with ⟨a,_,_⟩ | ⟨a,_,c,_⟩
   ·rw [if_neg a]; omega
   ·rw [if_pos a]; omega
  have hrec:(peL old l (n+psz p)).2=0:=by
   unfold peL at h
   rcases hp1 with ⟨a,b,c⟩ | ⟨a,b,c,d⟩
   ·rw [decide_eq_false a,b,c] at h
    simp only [Bool.not_false,cond_true,decide_true,Bool.not_true,Bool.or_self,cond_false] at h
    have e:psz p=(p.Data.length:Int):=if_neg a
    rw [wrapS (by omega) (by omega)] at h
    rw [e]; exact h
   ·have e:psz p=p.Long:=if_pos a
    rw [decide_eq_true a,decide_eq_false (show ¬ p.At < 0 by omega),decide_eq_false (show ¬ p.Long < 1 by omega),decide_eq_false (show ¬ old < p.At by omega),decide_eq_false (show ¬ old - p.At < p.Long by omega)] at h
    simp only [Bool.not_true,cond_false,Bool.or_self] at h
    rw [wrapS (by omega) (by omega)] at h
    rw [e]; exact h
  have:=tot_le ho l (n+psz p) (fun q hq=>hp q (by simp [hq])) (by omega) (by omega) hrec
  rw [ht]; omega
theorem tot_mem:∀ (l:List Pc) {old:Int},(∀ p ∈ l,Pok old p)→(∀ p ∈ l,(p.Data.length:Int)≤tot l)∧((l.flatMap pp).length:Int)≤9 * (l.length:Int)+tot l∧0≤tot l
 | [],_,_=>by simp [tot]
 | p::l,old,h=>by
  have ht:tot (p::l)=psz p+tot l:=by simp [tot]
  obtain ⟨i1,i2,i3⟩:=tot_mem l fun q hq=>h q (by simp [hq])
  have hl:((p::l).length:Int)=(l.length:Int)+1:=by simp
  have hq:0≤psz p∧(p.Data.length:Int)≤psz p∧((pp p).length:Int)≤9+psz p:=by
   have g1:=grpS_len p.At
   have g2:=grpS_len p.Long
   have g3:=grpS_len (p.Data.length:Int)
   unfold psz pp
   rcases h p (by simp) with ⟨a,_,_⟩ | ⟨a,_,c,_⟩
   ·rw [if_neg a,if_neg a]
    simp only [List.length_append,List.length_cons,List.length_nil]; omega
   ·rw [if_pos a,if_pos a,a]
    simp only [List.length_append,List.length_cons,List.length_nil]; omega
  rw [ht,hl]
  simp only [List.flatMap_cons,List.length_append,List.mem_cons]
  refine ⟨?_,by omega,by omega⟩
  rintro q (rfl | hq')
  ·omega
  ·have:=i1 q hq'; omega
theorem Dok.tot {d:api_Delta} (h:Dok d):0≤tot d.Pieces∧tot d.Pieces≤65536:=by
 obtain ⟨o1,o2,n1,n2,s1,s2,l1,hp⟩:=de_ok h.ok
 have hpe:(pe d.Pieces d.Old).2=0:=by
  have:=h.ok
  unfold de at this
  by_cases c1:((((decide (d.Old < 0)) || (decide (65536 < d.Old))) || (decide (d.New < 0))) || (decide (65536 < d.New)))=true
  ·rw [c1] at this; cases this
  ·rw [Bool.not_eq_true] at c1
   rw [c1,s1,s2] at this
   simp only [cond_false,Bool.not_true,Bool.or_self] at this
   by_cases e:(pe d.Pieces d.Old).2=0
   ·exact e
   ·rw [decide_eq_false e] at this; exact this
 unfold pe at hpe
 rw [bif_f (by rw [decide_eq_false (by omega),decide_eq_false (by omega)]; rfl),bif_f (decide_eq_false (by omega))] at hpe
 have:=tot_le o2 d.Pieces 0 (fun p hp'=>⟨hp p hp',h.sm p hp'⟩) (by omega) (by omega) hpe
 omega
def sg (p:Pc):List Pc:=if p.Data=[] then (List.range p.Long.toNat).map fun i:Nat=>⟨p.At+(i:Int),1,[]⟩ else p.Data.map fun c=>⟨0,0,[c]⟩
def sgs (l:List Pc):List Pc:=l.flatMap sg
def Pk (p:Pc):Prop:=(p.Data ≠ []∧p.At=0∧p.Long=0) ∨ (p.Data=[]∧1≤p.Long)
theorem Pok.pk {old:Int} {p:Pc} (h:Pok old p):Pk p:=h.elim .inl fun h=>.inr ⟨h.1,h.2.2.1⟩
theorem jn_data (a k:Int):∀ (y u:Str) (L:List Pc),u ≠ []→jn ⟨a,k,u⟩ ((y.map fun c=>(⟨0,0,[c]⟩:Pc))++L)=jn ⟨a,k,u++y⟩ L
 | [],u,L,_=>by simp
 | c::y,u,L,hu=>by
  have e:mg ⟨a,k,u⟩ ⟨0,0,[c]⟩=true:=by unfold mg; rw [decide_eq_false hu]; simp
  have e2:mrg ⟨a,k,u⟩ ⟨0,0,[c]⟩=⟨a,k,u++[c]⟩:=by unfold mrg; rw [if_neg hu]
  simp only [List.map_cons,List.cons_append,jn]
  rw [if_pos e,e2,jn_data a k y (u++[c]) L (by simp),List.append_assoc]
  rfl
theorem jn_copy (a:Int):∀ (m:Nat) (k:Int) (L:List Pc),jn ⟨a,k,[]⟩ (((List.range m).map fun i:Nat=>(⟨a+k+(i:Int),1,[]⟩:Pc))++L)=jn ⟨a,k+(m:Int),[]⟩ L
 | 0,k,L=>by simp
 | m+1,k,L=>by
  have hr:((List.range (m+1)).map fun i:Nat=>(⟨a+k+(i:Int),1,[]⟩:Pc))=⟨a+k,1,[]⟩::(List.range m).map fun i:Nat=>(⟨a+(k+1)+(i:Int),1,[]⟩:Pc):=by
   rw [List.range_succ_eq_map,List.map_cons,List.map_map]
   congr 1
   ·simp
   ·apply List.map_congr_left
    intro i _
    simp only [Function.comp,Nat.succ_eq_add_one]
    congr 1
    omega
  have e:mg ⟨a,k,[]⟩ ⟨a+k,1,[]⟩=true:=by simp [mg]
  have e2:mrg ⟨a,k,[]⟩ ⟨a+k,1,[]⟩=⟨a,k+1,[]⟩:=by simp [mrg]
  rw [hr]
  simp only [List.cons_append,jn]
  rw [if_pos e,e2,jn_copy a m (k+1) L]
  congr 2
  omega
theorem sg_cons {q:Pc} (h:Pk q):∃ s r,sg q=s::r∧(∀ L,jn s (r++L)=jn q L)∧∀ c:Pc,mg c s=mg c q∧(mg c q=true→∀ L,jn (mrg c s) (r++L)=jn (mrg c q) L):=by
 obtain ⟨a,k,x⟩:=q
 rcases h with ⟨h1,h2,h3⟩ | ⟨h1,h2⟩
 ·dsimp only at h1 h2 h3
  subst h2 h3
  cases x with
  | nil=>exact absurd rfl h1
  | cons b y =>
   refine ⟨⟨0,0,[b]⟩,y.map fun c=>⟨0,0,[c]⟩,by simp [sg],fun L=>by rw [jn_data 0 0 y [b] L (by simp)]; rfl,fun c=>⟨by simp [mg],fun hm L=>?_⟩⟩
   have hc:c.Data ≠ []:=fun e=>by simp [mg,e] at hm
   have e1:mrg c ⟨0,0,[b]⟩=⟨c.At,c.Long,c.Data++[b]⟩:=by unfold mrg; rw [if_neg hc]
   have e2:mrg c ⟨0,0,b::y⟩=⟨c.At,c.Long,c.Data++b::y⟩:=by unfold mrg; rw [if_neg hc]
   rw [e1,e2,jn_data _ _ y _ L (by simp),List.append_assoc]
   rfl
 ·dsimp only at h1 h2
  subst h1
  obtain ⟨m,hm⟩:∃ m:Nat,k=((m+1:Nat):Int):=⟨(k - 1).toNat,by omega⟩
  subst hm
  have hr:sg ⟨a,((m+1:Nat):Int),[]⟩=⟨a,1,[]⟩::(List.range m).map fun i:Nat=>(⟨a+1+(i:Int),1,[]⟩:Pc):=by
   unfold sg
   rw [if_pos rfl,Int.toNat_natCast,List.range_succ_eq_map,List.map_cons,List.map_map]
   congr 1
   ·simp
   ·apply List.map_congr_left
    intro i _
    simp only [Function.comp,Nat.succ_eq_add_one]
    congr 1
    omega
  refine ⟨_,_,hr,fun L=>?_,fun c=>⟨by simp [mg],fun hmg L=>?_⟩⟩
  ·rw [jn_copy a m 1 L]; congr 2; omega
  ·have hc:c.Data=[]:=Classical.byContradiction fun e=>by simp [mg,e] at hmg
   have hat:a=c.At+c.Long:=by simpa [mg,hc] using hmg
   have e1:mrg c ⟨a,1,[]⟩=⟨c.At,c.Long+1,[]⟩:=by unfold mrg; rw [if_pos hc,hc]; rfl
   have e2:mrg c ⟨a,((m+1:Nat):Int),[]⟩=⟨c.At,c.Long+((m+1:Nat):Int),[]⟩:=by unfold mrg; rw [if_pos hc,hc]; rfl
   have:=jn_copy c.At m (c.Long+1) L
   rw [e1,e2]
   rw [show (fun i:Nat=>(⟨a+1+(i:Int),1,[]⟩:Pc))=fun i:Nat=>⟨c.At+(c.Long+1)+(i:Int),1,[]⟩ from funext fun i=>by rw [hat]; congr 1; omega]
   rw [this]
   congr 2
   omega
theorem jn_sgs:∀ (l:List Pc) (c:Pc),(∀ p ∈ l,Pk p)→jn c (sgs l)=jn c l
 | [],c,_=>rfl
 | q::l,c,h=>by
  have hl:∀ p ∈ l,Pk p:=fun p hp=>h p (by simp [hp])
  obtain ⟨s,r,e,h1,h2⟩:=sg_cons (h q (by simp))
  obtain ⟨h3,h4⟩:=h2 c
  have e0:sgs (q::l)=s::(r++sgs l):=by
   show sg q++sgs l=_
   rw [e]; rfl
  rw [e0]
  simp only [jn]
  rw [h3]
  split
  ·rename_i hm
   rw [h4 hm,jn_sgs l _ hl]
  ·rw [h1,jn_sgs l _ hl]
theorem jns_sgs (l:List Pc) (h:∀ p ∈ l,Pk p):jns (sgs l)=jns l:=by
 cases l with
 | nil=>rfl
 | cons q l =>
  obtain ⟨s,r,e,h1,_⟩:=sg_cons (h q (by simp))
  have e0:sgs (q::l)=s::(r++sgs l):=by
   show sg q++sgs l=_
   rw [e]; rfl
  rw [e0]
  show jn s (r++sgs l)=jn q l
  rw [h1,jn_sgs l q fun p hp=>h p (by simp [hp])]
theorem mrg_pk {c q:Pc} (hc:Pk c) (hq:Pk q) (h:mg c q=true):Pk (mrg c q):=by
 unfold mg at h
 unfold mrg
 by_cases hd:c.Data=[]
 ·rcases hc with hc | ⟨_,h1⟩
  ·exact absurd hd hc.1
  rcases hq with hq | ⟨h2,h3⟩
  ·simp [hd,hq.1] at h
  ·exact .inr ⟨by simp [hd,h2],by simp only [if_pos hd]; omega⟩
 ·rcases hc with ⟨_,h1,h2⟩ | hc
  ·exact .inl ⟨by simp [hd],h1,by simp only [if_neg hd]; exact h2⟩
  ·exact absurd hc.1 hd
theorem sg_mrg {c q:Pc} (hc:Pk c) (hq:Pk q) (h:mg c q=true):sg (mrg c q)=sg c++sg q:=by
 unfold mg at h
 by_cases hd:c.Data=[]
 ·rw [decide_eq_true hd] at h
  simp only [Bool.true_and,Bool.not_true,Bool.false_and,Bool.or_false,Bool.and_eq_true,decide_eq_true_eq] at h
  rcases hc with hc | ⟨_,h1⟩
  ·exact absurd hd hc.1
  rcases hq with hq | ⟨_,h3⟩
  ·exact absurd h.1 hq.1
  unfold mrg sg
  rw [if_pos (by simp [hd,h.1]),if_pos hd,if_pos h.1]
  simp only [if_pos hd]
  rw [show (c.Long+q.Long).toNat=c.Long.toNat+q.Long.toNat by omega,List.range_add,List.map_append,List.map_map]
  congr 1
  apply List.map_congr_left
  intro i _
  simp only [Function.comp]
  congr 1
  rw [h.2]; omega
 ·rw [decide_eq_false hd] at h
  have hq0:q.Data ≠ []:=by simpa using h
  unfold mrg sg
  rw [if_neg (by simp [hd]),if_neg hq0]
  simp only [if_neg hd,List.map_append]
theorem sgs_jn:∀ (l:List Pc) (c:Pc),Pk c→(∀ p ∈ l,Pk p)→sgs (jn c l)=sg c++sgs l∧∀ p ∈ jn c l,Pk p
 | [],c,hc,_=>⟨by simp [jn,sgs],fun p hp=>by simp only [jn,List.mem_singleton] at hp; subst hp; exact hc⟩
 | q::l,c,hc,h=>by
  have hq:=h q (by simp)
  have hl:∀ p ∈ l,Pk p:=fun p hp=>h p (by simp [hp])
  simp only [jn]
  split
  ·rename_i hm
   obtain ⟨i1,i2⟩:=sgs_jn l _ (mrg_pk hc hq hm) hl
   refine ⟨?_,i2⟩
   rw [i1,sg_mrg hc hq hm,List.append_assoc]; rfl
  ·obtain ⟨i1,i2⟩:=sgs_jn l q hq hl
   refine ⟨?_,fun p hp=>?_⟩
   ·show sg c++sgs (jn q l)=_
    rw [i1]; rfl
   ·rcases List.mem_cons.1 hp with rfl | hp
    ·exact hc
    ·exact i2 p hp
theorem sgs_jns (l:List Pc) (h:∀ p ∈ l,Pk p):sgs (jns l)=sgs l∧∀ p ∈ jns l,Pk p:=by
 cases l with
 | nil=>exact ⟨rfl,fun p hp=>absurd hp (by simp [jns])⟩
 | cons q l=>exact sgs_jn l q (h q (by simp)) fun p hp=>h p (by simp [hp])
theorem sg_len {p:Pc} (h:Pk p):((sg p).length:Int)=psz p∧1≤(sg p).length:=by
 unfold sg psz
 rcases h with ⟨h1,_⟩ | ⟨h1,h2⟩
 ·rw [if_neg h1,if_neg h1]
  have:=List.length_pos_iff.2 h1
  simp; omega
 ·rw [if_pos h1,if_pos h1]
  simp; omega
theorem sgs_len:∀ {l:List Pc},(∀ p ∈ l,Pk p)→((sgs l).length:Int)=tot l∧l.length≤(sgs l).length
 | [],_=>by simp [sgs,tot]
 | p::l,h=>by
  obtain ⟨h1,h2⟩:=sg_len (h p (by simp))
  obtain ⟨i1,i2⟩:=sgs_len (l:=l) fun q hq=>h q (by simp [hq])
  have e:sgs (p::l)=sg p++sgs l:=rfl
  have e2:tot (p::l)=psz p+tot l:=by simp [tot]
  rw [e,e2,List.length_append,List.length_cons]
  omega
def win {α:Type} (S:List α) (lo hi:Nat):List α:=(S.take hi).drop lo
theorem win_app {α:Type} (x y:List α) (lo hi:Nat):win (x++y) lo hi=win x lo hi++win y (lo - x.length) (hi - x.length):=by
 unfold win
 rw [List.take_append,List.drop_append,List.length_take]
 congr 1
 by_cases h:hi≤x.length
 ·rw [show hi - x.length=0 by omega]; simp
 ·rw [Nat.min_eq_right (by omega)]
theorem win_len {α:Type} (S:List α) (lo hi:Nat):(win S lo hi).length=min hi S.length - lo:=by simp [win]
theorem win_map {α β:Type} (f:α→β) (S:List α) (lo hi:Nat):win (S.map f) lo hi=(win S lo hi).map f:=by
 unfold win
 rw [List.map_drop,List.map_take]
theorem win_nil {α:Type} {S:List α} {lo hi:Nat} (h:min hi S.length≤lo):win S lo hi=[]:=by
 refine List.length_eq_zero_iff.1 ?_
 rw [win_len]; omega
def pt (q:Pc) (f t:Int):Pc:=if q.Data=[] then ⟨q.At+f,t - f,[]⟩ else ⟨0,0,(q.Data.drop f.toNat).take (t.toNat - f.toNat)⟩
def cuts (A E:Int):Int→List Pc→List Pc
 | _,[]=>[]
 | b,q::l=>(if max (A - b) 0 < min (E - b) (psz q) then [pt q (max (A - b) 0) (min (E - b) (psz q))] else [])++cuts A E (b+psz q) l
theorem psz_pos {p:Pc} (h:Pk p):1≤psz p:=by
 have:=sg_len h
 omega
theorem sg_part {q:Pc} (h:Pk q) {f t:Int} (h0:0≤f) (h1:f < t) (h2:t≤psz q):sg (pt q f t)=win (sg q) f.toNat t.toNat∧Pk (pt q f t):=by
 unfold pt psz at *
 rcases h with ⟨h3,h4,h5⟩ | ⟨h3,h4⟩
 ·rw [if_neg h3] at h2 ⊢
  have hl:((q.Data.drop f.toNat).take (t.toNat - f.toNat)).length=t.toNat - f.toNat:=by simp; omega
  have hne:(q.Data.drop f.toNat).take (t.toNat - f.toNat) ≠ []:=fun e=>by rw [e] at hl; simp at hl; omega
  refine ⟨?_,.inl ⟨hne,rfl,rfl⟩⟩
  unfold sg
  rw [if_neg hne,if_neg h3,win_map]
  unfold win
  rw [List.drop_take]
 ·rw [if_pos h3] at h2 ⊢
  refine ⟨?_,.inr ⟨rfl,by dsimp only; omega⟩⟩
  unfold sg
  rw [if_pos rfl,if_pos h3,win_map]
  apply List.ext_getElem
  ·simp [win_len]; omega
  ·intro i g1 g2
   simp only [List.getElem_map,win,List.getElem_drop,List.getElem_take,List.getElem_range]
   congr 1
   omega
theorem sgs_app (x y:List Pc):sgs (x++y)=sgs x++sgs y:=by simp [sgs]
theorem sgs_cuts (A E:Int):∀ (l:List Pc) (b:Int),(∀ p ∈ l,Pk p)→sgs (cuts A E b l)=win (sgs l) (A - b).toNat (E - b).toNat∧∀ p ∈ cuts A E b l,Pk p
 | [],b,_=>⟨by simp [cuts,sgs,win],fun p hp=>by simp [cuts] at hp⟩
 | q::l,b,h=>by
  have hq:=h q (by simp)
  obtain ⟨i1,i2⟩:=sgs_cuts A E l (b+psz q) fun p hp=>h p (by simp [hp])
  have hl:=(sg_len hq).1
  have hp:=psz_pos hq
  have e0:sgs (q::l)=sg q++sgs l:=rfl
  simp only [cuts]
  rw [sgs_app,i1,e0,win_app,show (A - (b+psz q)).toNat=(A - b).toNat - (sg q).length by omega,show (E - (b+psz q)).toNat=(E - b).toNat - (sg q).length by omega]
  by_cases hc:max (A - b) 0 < min (E - b) (psz q)
  ·rw [if_pos hc]
   obtain ⟨j1,j2⟩:=sg_part hq (f:=max (A - b) 0) (t:=min (E - b) (psz q)) (by omega) hc (by omega)
   have e1:sgs [pt q (max (A - b) 0) (min (E - b) (psz q))]=win (sg q) (A - b).toNat (E - b).toNat:=by
    simp only [sgs,List.flatMap_cons,List.flatMap_nil,List.append_nil]
    rw [j1,show (max (A - b) 0).toNat=(A - b).toNat by omega]
    unfold win
    congr 1
    rw [show (min (E - b) (psz q)).toNat=min (E - b).toNat (sg q).length by omega]
    by_cases hm:(E - b).toNat≤(sg q).length
    ·rw [Nat.min_eq_left hm]
    ·rw [Nat.min_eq_right (by omega),List.take_of_length_le (Nat.le_refl _),List.take_of_length_le (by omega)]
   refine ⟨by rw [e1],fun p hp=>?_⟩
   simp only [List.cons_append,List.nil_append,List.mem_cons] at hp
   rcases hp with rfl | hp
   ·exact j2
   ·exact i2 p hp
  ·rw [if_neg hc]
   refine ⟨?_,fun p hp=>i2 p (by simpa using hp)⟩
   rw [win_nil (S:=sg q) (by omega)]
   rfl
theorem sg_single {s:Pc} {D:List Pc} (hs:s ∈ sgs D):sg s=[s]:=by
 obtain ⟨p,hp,hs⟩:=List.mem_flatMap.1 hs
 unfold sg at hs
 split at hs
 ·obtain ⟨i,_,rfl⟩:=List.mem_map.1 hs
  unfold sg
  rw [if_pos rfl]
  simp [List.range_succ]
 ·obtain ⟨c,_,rfl⟩:=List.mem_map.1 hs
  unfold sg
  rw [if_neg (by simp)]
  simp
theorem sgs_id:∀ l:List Pc,(∀ s ∈ l,sg s=[s])→sgs l=l
 | [],_=>rfl
 | s::l,h=>by
  show sg s++sgs l=_
  rw [h s (by simp),sgs_id l fun x hx=>h x (by simp [hx])]; rfl
theorem mem_win {α:Type} {S:List α} {lo hi:Nat} {x:α} (h:x ∈ win S lo hi):x ∈ S:=List.mem_of_mem_take (List.mem_of_mem_drop h)
def lpF (D:List Pc) (p:Pc):List Pc:=if p.Data=[] then cuts p.At (p.At+p.Long) 0 D else [p]
def lrF (D:List Pc) (p:Pc):List Pc:=if p.Data=[] then win (sgs D) p.At.toNat (p.At+p.Long).toNat else [p]
theorem sgs_flat (f:Pc→List Pc):∀ l:List Pc,sgs (l.flatMap f)=l.flatMap fun p=>sgs (f p)
 | []=>rfl
 | p::l=>by rw [List.flatMap_cons,List.flatMap_cons,sgs_app,sgs_flat f l]
theorem sgs_lp {D:List Pc} (hD:∀ p ∈ D,Pk p) (p:Pc):sgs (lpF D p)=sgs (lrF D p):=by
 unfold lpF lrF
 split
 ·obtain ⟨h1,_⟩:=sgs_cuts p.At (p.At+p.Long) D 0 hD
  rw [h1,sgs_id (win _ _ _) fun s hs=>sg_single (mem_win hs),Int.sub_zero,Int.sub_zero]
 ·rfl
theorem sg_pok {old:Int} {p s:Pc} (h:Pok old p) (hs:s ∈ sg p):Pok old s∧s.Data.length≤1:=by
 unfold sg at hs
 rcases h with ⟨h1,_⟩ | ⟨h1,h2,h3,h4⟩
 ·rw [if_neg h1] at hs
  obtain ⟨c,_,rfl⟩:=List.mem_map.1 hs
  exact ⟨.inl ⟨by simp,rfl,rfl⟩,by simp⟩
 ·rw [if_pos h1] at hs
  obtain ⟨i,hi,rfl⟩:=List.mem_map.1 hs
  rw [List.mem_range] at hi
  exact ⟨.inr ⟨rfl,by dsimp only; omega,by dsimp only; omega,by dsimp only; omega⟩,by simp⟩
theorem pt_pok {old:Int} {q:Pc} (h:Pok old q) {f t:Int} (h0:0≤f) (h1:f < t) (h2:t≤psz q):Pok old (pt q f t)∧(pt q f t).Data.length≤q.Data.length:=by
 obtain ⟨_,hk⟩:=sg_part h.pk h0 h1 h2
 unfold pt psz at *
 rcases h with ⟨h3,h4,h5⟩ | ⟨h3,h4,h5,h6⟩
 ·rw [if_neg h3] at h2 hk ⊢
  refine ⟨?_,by simp; omega⟩
  rcases hk with hk | hk
  ·exact .inl hk
  ·have:=hk.2; simp at this
 ·rw [if_pos h3] at h2 hk ⊢
  exact ⟨.inr ⟨rfl,by dsimp only; omega,by dsimp only; omega,by dsimp only; omega⟩,by simp⟩
theorem cuts_pok {old:Int} (A E:Int):∀ (l:List Pc) (b:Int),(∀ p ∈ l,Pok old p∧p.Data.length≤1048576)→∀ p ∈ cuts A E b l,Pok old p∧p.Data.length≤1048576
 | [],b,_,p,hp=>by simp [cuts] at hp
 | q::l,b,h,p,hp=>by
  simp only [cuts,List.mem_append] at hp
  rcases hp with hp | hp
  ·split at hp
   ·rename_i hc
    rw [List.mem_singleton] at hp
    subst hp
    obtain ⟨h1,h2⟩:=h q (by simp)
    have:=pt_pok h1 (f:=max (A - b) 0) (t:=min (E - b) (psz q)) (by omega) hc (by omega)
    exact ⟨this.1,by omega⟩
   ·simp at hp
  ·exact cuts_pok A E l _ (fun p hp=>h p (by simp [hp])) p hp
section
variable {d e:api_Delta}
theorem lp_pok (hd:Dok d) (he:Dok e):∀ p ∈ e.Pieces.flatMap (lpF d.Pieces),Pok d.Old p∧p.Data.length≤1048576:=fun p hp=>by
 obtain ⟨q,hq,hp⟩:=List.mem_flatMap.1 hp
 unfold lpF at hp
 split at hp
 ·exact cuts_pok _ _ _ _ hd.pok p hp
 ·rename_i hqd
  rw [List.mem_singleton] at hp
  subst hp
  obtain ⟨h1,h2⟩:=he.pok p hq
  rcases h1 with h1 | h1
  ·exact ⟨.inl h1,h2⟩
  ·exact absurd h1.1 hqd
theorem lr_pok (hd:Dok d) (he:Dok e):∀ p ∈ e.Pieces.flatMap (lrF d.Pieces),Pok d.Old p∧p.Data.length≤1048576:=fun p hp=>by
 obtain ⟨q,hq,hp⟩:=List.mem_flatMap.1 hp
 unfold lrF at hp
 split at hp
 ·obtain ⟨x,hx,hp⟩:=List.mem_flatMap.1 (mem_win hp)
  have:=sg_pok (hd.pok x hx).1 hp
  exact ⟨this.1,by omega⟩
 ·rename_i hqd
  rw [List.mem_singleton] at hp
  subst hp
  obtain ⟨h1,h2⟩:=he.pok p hq
  rcases h1 with h1 | h1
  ·exact ⟨.inl h1,h2⟩
  ·exact absurd h1.1 hqd
theorem lp_lr (hd:Dok d):sgs (e.Pieces.flatMap (lpF d.Pieces))=sgs (e.Pieces.flatMap (lrF d.Pieces)):=by
 rw [sgs_flat,sgs_flat]
 congr 1
 funext p
 exact sgs_lp (fun p hp=>(hd.pok p hp).1.pk) p
theorem jns_lp (hd:Dok d) (he:Dok e):jns (e.Pieces.flatMap (lpF d.Pieces))=jns (e.Pieces.flatMap (lrF d.Pieces)):=by
 rw [← jns_sgs _ fun p hp=>(lp_pok hd he p hp).1.pk,lp_lr hd,jns_sgs _ fun p hp=>(lr_pok hd he p hp).1.pk]
theorem lr_len (hd:Dok d) (he:Dok e):((sgs (e.Pieces.flatMap (lrF d.Pieces))).length:Int)≤tot e.Pieces:=by
 rw [sgs_flat]
 have hk:∀ p ∈ e.Pieces,Pk p:=fun p hp=>(he.pok p hp).1.pk
 revert hk
 generalize e.Pieces=l
 intro hk
 induction l with
 | nil=>simp [tot]
 | cons p l ih =>
  have i1:=ih fun q hq=>hk q (by simp [hq])
  have e2:tot (p::l)=psz p+tot l:=by simp [tot]
  rw [List.flatMap_cons,List.length_append,e2]
  have:((sgs (lrF d.Pieces p)).length:Int)≤psz p:=by
   unfold lrF
   rcases hk p (by simp) with ⟨h1,_⟩ | ⟨h1,h2⟩
   ·rw [if_neg h1]
    have:=(sg_len (hk p (by simp))).1
    simp only [sgs,List.flatMap_cons,List.flatMap_nil,List.append_nil]
    omega
   ·rw [if_pos h1,sgs_id (win _ _ _) fun s hs=>sg_single (mem_win hs),win_len]
    unfold psz
    rw [if_pos h1]
    omega
  omega
theorem lp_few (hd:Dok d) (he:Dok e):(e.Pieces.flatMap (lpF d.Pieces)).length≤65536∧(e.Pieces.flatMap (lrF d.Pieces)).length≤65536:=by
 have h1:=lr_len hd he
 have h2:=he.tot
 have h3:=(sgs_len (l:=e.Pieces.flatMap (lpF d.Pieces)) fun p hp=>(lp_pok hd he p hp).1.pk).2
 have h4:=(sgs_len (l:=e.Pieces.flatMap (lrF d.Pieces)) fun p hp=>(lr_pok hd he p hp).1.pk).2
 rw [lp_lr hd] at h3
 omega
end
def zDc:api_Delta:=⟨0,0,[],[],[]⟩
def comp (d e:api_Delta) (l:List Pc):api_Delta × Int :=
 if d.New=e.Old∧d.NewSum=e.OldSum then (if 5000 < (jns l).length then (zDc,4) else (⟨d.Old,e.New,d.OldSum,e.NewSum,jns l⟩,0)) else (zDc,11)
theorem size_eq (p:Pc):delta_size p=some (psz p):=by
 unfold delta_size psz
 by_cases h:p.Data=[]
 ·rw [decide_eq_true h,if_pos h]; rfl
 ·rw [decide_eq_false h,if_neg h]; rfl
theorem part_eq {q:Pc} {old:Int} (ho:old≤65536) (h:Pok old q) {f t:Int} (h0:0≤f) (h1:f < t) (h2:t≤psz q):delta_part q f t=some (pt q f t):=by
 unfold delta_part pt
 unfold psz at h2
 by_cases hd:q.Data=[]
 ·rw [if_pos hd] at h2
  rcases h with h | ⟨_,h3,h4,h5⟩
  ·exact absurd hd h.1
  rw [decide_eq_true hd,if_pos hd,Bool.not_true,cond_false,wrapS (by omega) (by omega),wrapS (by omega) (by omega)]
 ·rw [if_neg hd] at h2
  rw [decide_eq_false hd,if_neg hd,Bool.not_false,cond_true,chk_true (by omega)]
theorem psz_le {old:Int} {p:Pc} (ho:old≤65536) (h:Pok old p∧p.Data.length≤1048576):1≤psz p∧psz p≤1048576:=by
 refine ⟨psz_pos h.1.pk,?_⟩
 unfold psz
 rcases h.1 with ⟨a,_⟩ | ⟨a,b,c,d⟩
 ·rw [if_neg a]; omega
 ·rw [if_pos a]; omega
theorem tot_nn:∀ {l:List Pc},(∀ p ∈ l,Pk p)→0≤tot l:=fun {l} h=>by have:=(sgs_len h).1; omega
theorem jp_run {S Z:Type} {F:S→Option Z} {m:(S→Option Z)→Option Z} {R:Option Z} (h:∀ K,(∀ s,K s=F s)→m K=R):jp F m=R:=h F fun _=>rfl
theorem cuts_loop {Z:Type} {old:Int} (ho:old≤65536) (A L:Int) (hA:0≤A) (hL:0≤L) (hAL:A+L≤65536) (K:List Pc→Option Z):∀ (l:List Pc) (i:Nat) (b:Int) (o:List Pc),(∀ p ∈ l,Pok old p∧p.Data.length≤1048576)→0≤b→b+tot l≤65536→(o++cuts A (A+L) b l).length≤131072 →
  forL l i (fun i_364 p_366 s nx_363 k_362 =>
    match s with
    | (begin_355,o3_357) =>
     call (delta_size p_366) fun r_367 =>
     bif decide ((max (IntKind.i64.wrap (A - begin_355)) 0) < (min (IntKind.i64.wrap ((IntKind.i64.wrap (A+L)) - begin_355)) r_367)) then
      call (delta_part p_366 (max (IntKind.i64.wrap (A - begin_355)) 0) (min (IntKind.i64.wrap ((IntKind.i64.wrap (A+L)) - begin_355)) r_367)) fun r_368 =>
      chk ((o3_357++[r_368]).length≤274877906944) <|
      nx_363 (IntKind.i64.wrap (begin_355+r_367),o3_357++[r_368])
     else
     nx_363 (IntKind.i64.wrap (begin_355+r_367),o3_357)) (b,o) (fun s=>match s with
    | (begin_355,o3_357) =>
     K o3_357)=K (o++cuts A (A+L) b l)
 | [],i,b,o,_,_,_,_=>by simp [forL,cuts]
 | q::l,i,b,o,h,hb,ht,hl=>by
  have hq:=h q (by simp)
  have e2:tot (q::l)=psz q+tot l:=by simp [tot]
  have hz:=psz_le ho hq
  have hn:=tot_nn (l:=l) fun p hp=>(h p (by simp [hp])).1.pk
  have ih:=cuts_loop ho A L hA hL hAL K l (i+1) (b+psz q)
  rw [wrapS (n:=A+L) (by omega) (by omega)] at ih
  unfold forL
  dsimp only
  rw [size_eq,call_some,wrapS (n:=A+L) (by omega) (by omega),wrapS (n:=A - b) (by omega) (by omega),wrapS (n:=A+L - b) (by omega) (by omega),wrapS (n:=b+psz q) (by omega) (by omega)]
  simp only [cuts] at hl ⊢
  by_cases hc:max (A - b) 0 < min (A+L - b) (psz q)
  ·rw [if_pos hc] at hl ⊢
   rw [decide_eq_true hc,cond_true,part_eq ho hq.1 (by omega) hc (by omega),call_some]
   rw [List.length_append,List.length_append] at hl
   simp only [List.length_cons,List.length_nil] at hl
   rw [chk_true (by simp; omega)]
   refine (ih (o++[pt q (max (A - b) 0) (min (A+L - b) (psz q))]) (fun p hp=>h p (by simp [hp])) (by omega) (by omega) (by simp; omega)).trans ?_
   rw [List.append_assoc]
  ·rw [if_neg hc] at hl ⊢
   rw [decide_eq_false hc,cond_false]
   exact ih o (fun p hp=>h p (by simp [hp])) (by omega) (by omega) hl
theorem comp_loop {Z:Type} {d:api_Delta} (hd:Dok d) (K:List Pc→Option Z) {old:Int} (ho:old≤65536):∀ (l:List Pc) (i:Nat) (o:List Pc),(∀ p ∈ l,Pok old p∧p.Data.length≤1048576)→(o++l.flatMap (lpF d.Pieces)).length≤131072 →
  forL l i (fun i_321 p_323 o3_270 nx_320 k_319 =>
   jp (S:=List api_Piece) (fun o3_346 =>
    nx_320 o3_346) fun k_347 =>
   bif !decide (p_323.Data=[]) then
    chk ((o3_270++[p_323]).length≤274877906944) <|
    k_347 (o3_270++[p_323])
   else
   forL d.Pieces 0 (fun i_364 p_366 s nx_363 k_362 =>
    match s with
    | (begin_355,o3_357) =>
     call (delta_size p_366) fun r_367 =>
     bif decide ((max (IntKind.i64.wrap (p_323.At - begin_355)) 0) < (min (IntKind.i64.wrap ((IntKind.i64.wrap (p_323.At+p_323.Long)) - begin_355)) r_367)) then
      call (delta_part p_366 (max (IntKind.i64.wrap (p_323.At - begin_355)) 0) (min (IntKind.i64.wrap ((IntKind.i64.wrap (p_323.At+p_323.Long)) - begin_355)) r_367)) fun r_368 =>
      chk ((o3_357++[r_368]).length≤274877906944) <|
      nx_363 (IntKind.i64.wrap (begin_355+r_367),o3_357++[r_368])
     else
     nx_363 (IntKind.i64.wrap (begin_355+r_367),o3_357)) (0,o3_270) (fun s=>match s with
    | (begin_355,o3_357) =>
     k_347 o3_357)) o K=K (o++l.flatMap (lpF d.Pieces))
 | [],i,o,_,_=>by simp [forL]
 | p::l,i,o,h,hl=>by
  have hp:=h p (by simp)
  have ih:=comp_loop hd K ho l (i+1)
  have hdo:=(de_ok hd.ok).2.1
  unfold forL
  dsimp only
  refine jp_run fun K2 hK2=>?_
  rw [List.flatMap_cons] at hl ⊢
  have hl1:(o++lpF d.Pieces p).length≤131072:=by rw [List.length_append,List.length_append] at hl; rw [List.length_append]; omega
  have fin:=ih (o++lpF d.Pieces p) (fun q hq=>h q (by simp [hq])) (by rw [List.append_assoc]; exact hl)
  rw [List.append_assoc] at fin
  by_cases hpd:p.Data=[]
  ·rcases hp.1 with hp1 | ⟨_,p1,p2,p3⟩
   ·exact absurd hpd hp1.1
   rw [decide_eq_true hpd,Bool.not_true,cond_false]
   have e:lpF d.Pieces p=cuts p.At (p.At+p.Long) 0 d.Pieces:=if_pos hpd
   rw [e] at fin hl1 ⊢
   refine (cuts_loop hdo p.At p.Long p1 (by omega) (by omega) K2 d.Pieces 0 0 o hd.pok (by omega) (by have:=hd.tot; omega) hl1).trans ?_
   rw [hK2]
   exact fin
  ·have e:lpF d.Pieces p=[p]:=if_neg hpd
   rw [e] at fin hl1 ⊢
   rw [decide_eq_false hpd,Bool.not_false,cond_true,chk_true (by omega),hK2]
   exact fin
theorem Compose_eq {d e:api_Delta} (hd:Dok d) (he:Dok e):delta_Compose d e=some (comp d e (e.Pieces.flatMap (lpF d.Pieces))):=by
 have hf:=lp_few hd he
 obtain ⟨d1,d2,d3⟩:=de_ok hd.ok
 obtain ⟨e1,e2,e3⟩:=de_ok he.ok
 unfold delta_Compose comp
 rw [jp_eq,Check_eq,call_some,hd.ok,Check_eq,call_some,he.ok]
 simp only [decide_true,Bool.not_true,cond_false]
 by_cases h1:d.New=e.Old
 rotate_left
 ·rw [decide_eq_false h1,if_neg (by simp [h1])]; rfl
 by_cases h2:d.NewSum=e.OldSum
 rotate_left
 ·rw [decide_eq_false h2,if_neg (by simp [h2])]; simp [zDc]
 rw [decide_eq_true h1,decide_eq_true h2,if_pos ⟨h1,h2⟩]
 simp only [Bool.not_true,Bool.or_self,cond_false,jp_eq]
 have:=comp_loop hd (fun o3_216=>call (delta_joined o3_216) fun r_219 =>
   bif decide (5000 < (r_219.length:Int)) then
    some ((api_Delta.mk 0 0 [] [] []),4)
   else
   some ((api_Delta.mk d.Old e.New d.OldSum e.NewSum r_219),(0:Int))) e2 e.Pieces 0 [] he.pok (by simp only [List.nil_append]; omega)
 simp only [jp_eq] at this
 refine this.trans ?_
 rw [List.nil_append,joined_eq d2 _ (lp_pok hd he) (by omega),call_some]
 by_cases h3:5000 < (jns (e.Pieces.flatMap (lpF d.Pieces))).length
 ·rw [decide_eq_true (by omega),if_pos h3]; rfl
 ·rw [decide_eq_false (by omega),if_neg h3]; rfl
theorem Dok_new {d:api_Delta} (h:Dok d):tot d.Pieces=d.New:=by
 obtain ⟨o1,o2,n1,n2,s1,s2,l1,hp⟩:=de_ok h.ok
 obtain ⟨t1,t2⟩:=h.tot
 have hpe:pe d.Pieces d.Old=(tot d.Pieces,0):=by
  unfold pe
  rw [bif_f (by rw [decide_eq_false (by omega),decide_eq_false (by omega)]; rfl),bif_f (decide_eq_false (by omega)),peL_good _ 0 hp o2 (by omega) (by omega),Int.zero_add]
 have:=h.ok
 unfold de at this
 rw [bif_f (by rw [decide_eq_false (show ¬ d.Old < 0 by omega),decide_eq_false (show ¬ 65536 < d.Old by omega),decide_eq_false (show ¬ d.New < 0 by omega),decide_eq_false (show ¬ 65536 < d.New by omega)]; rfl),s1,s2,hpe] at this
 simp only [Bool.not_true,Bool.or_self,cond_false,decide_true,cond_true] at this
 by_cases e:tot d.Pieces=d.New
 ·exact e
 ·simp [e] at this
def toO (s:Pc):outref1_origin:=if s.Data=[] then ⟨s.At,[]⟩ else ⟨-1,s.Data⟩
def frO (o:outref1_origin):Pc:=if o.at_ < 0 then ⟨0,0,o.data⟩ else ⟨o.at_,1,[]⟩
theorem fr_to {old:Int} {s:Pc} {D:List Pc} (hD:∀ p ∈ D,Pok old p) (hs:s ∈ sgs D):frO (toO s)=s:=by
 obtain ⟨p,hp,hs⟩:=List.mem_flatMap.1 hs
 unfold sg at hs
 split at hs
 ·rename_i hpd
  rcases hD p hp with h | ⟨_,h1,_⟩
  ·exact absurd hpd h.1
  obtain ⟨i,_,rfl⟩:=List.mem_map.1 hs
  unfold toO frO
  rw [if_pos rfl]
  dsimp only
  rw [if_neg (by omega)]
 ·obtain ⟨c,_,rfl⟩:=List.mem_map.1 hs
  simp [toO,frO]
theorem data_loop {Z:Type} (x:Str) (o:List outref1_origin) (K:List outref1_origin→Option Z) (hl:o.length+x.length≤1000000) {N:Nat} (hN:1099511627776≤N) :
  loopN N (fun s nx_797 k_796 =>
   match s with
   | (t39_792,o3_793) =>
    bif decide (t39_792 < (x.length:Int)) then
     chk (0≤t39_792∧t39_792≤(x.length:Int)∧0≤IntKind.i64.wrap (t39_792+1)∧IntKind.i64.wrap (t39_792+1)≤(x.length:Int)∧t39_792≤IntKind.i64.wrap (t39_792+1)) <|
     chk ((o3_793++[(outref1_origin.mk (-1) (List.take ((IntKind.i64.wrap (t39_792+1)).toNat - t39_792.toNat) (List.drop t39_792.toNat x)))]).length≤274877906944) <|
     nx_797 (IntKind.i64.wrap (t39_792+1),o3_793++[(outref1_origin.mk (-1) (List.take ((IntKind.i64.wrap (t39_792+1)).toNat - t39_792.toNat) (List.drop t39_792.toNat x)))])
    else
    k_796 (t39_792,o3_793)) ((0:Int),o) (fun s=>match s with
   | (t39_792,o3_793) =>
    K o3_793)=K (o++x.map fun c=>(⟨-1,[c]⟩:outref1_origin)):=by
 refine loopN_run (S:=Int × List outref1_origin) (fun s=>∃ j:Nat,j≤x.length∧s=((j:Int),o++(x.take j).map fun c=>(⟨-1,[c]⟩:outref1_origin))) (fun s=>x.length - s.1.toNat) (fun _=>K (o++x.map fun c=>(⟨-1,[c]⟩:outref1_origin))) ?_ N ((0:Int),o) ⟨0,by omega,by simp⟩ (by simp only; omega)
 rintro _ nx ⟨j,hj,rfl⟩ hnx
 dsimp only
 by_cases h:j < x.length
 ·rw [decide_eq_true (by omega),cond_true,wrap1 j (by omega),chk_true (by omega)]
  simp only [Int.toNat_natCast,Nat.add_sub_cancel_left]
  rw [chk_true (by simp; omega)]
  refine hnx _ ⟨j+1,h,?_⟩ (by simp only [Int.toNat_natCast]; omega)
  rw [List.take_succ_eq_append_getElem h,List.map_append,← List.append_assoc,List.drop_eq_getElem_cons h]
  rfl
 ·rw [decide_eq_false (by omega),cond_false,List.take_of_length_le (by omega)]
theorem long_loop {Z:Type} (a:Int) (m:Nat) (ha:0≤a) (ha2:a+m≤65536) (o:List outref1_origin) (K:List outref1_origin→Option Z) (hl:o.length+m≤1000000) {N:Nat} (hN:1099511627776≤N) :
  loopN N (fun s nx_787 k_786 =>
    match s with
    | (t55_783,o3_784) =>
     bif decide (t55_783 < (m:Int)) then
      chk ((o3_784++[(outref1_origin.mk (IntKind.i64.wrap (a+t55_783)) [])]).length≤274877906944) <|
      nx_787 (IntKind.i64.wrap (t55_783+1),o3_784++[(outref1_origin.mk (IntKind.i64.wrap (a+t55_783)) [])])
     else
     k_786 (t55_783,o3_784)) ((0:Int),o) (fun s=>match s with
    | (t55_783,o3_784) =>
     K o3_784)=K (o++(List.range m).map fun i:Nat=>(⟨a+(i:Int),[]⟩:outref1_origin)):=by
 refine loopN_run (S:=Int × List outref1_origin) (fun s=>∃ j:Nat,j≤m∧s=((j:Int),o++(List.range j).map fun i:Nat=>(⟨a+(i:Int),[]⟩:outref1_origin))) (fun s=>m - s.1.toNat) (fun _=>K (o++(List.range m).map fun i:Nat=>(⟨a+(i:Int),[]⟩:outref1_origin))) ?_ N ((0:Int),o) ⟨0,by omega,by simp⟩ (by simp only; omega)
 rintro _ nx ⟨j,hj,rfl⟩ hnx
 dsimp only
 by_cases h:j < m
 ·rw [decide_eq_true (by omega),cond_true,wrap1 j (by omega),wrapS (n:=a+(j:Int)) (by omega) (by omega),chk_true (by simp; omega)]
  refine hnx _ ⟨j+1,h,?_⟩ (by simp only [Int.toNat_natCast]; omega)
  rw [List.range_succ,List.map_append,← List.append_assoc]
  rfl
 ·obtain rfl:j=m:=by omega
  rw [decide_eq_false (by omega),cond_false]
theorem sg_toO {p:Pc} (h:Pk p):(sg p).map toO=(p.Data.map fun c=>(⟨-1,[c]⟩:outref1_origin))++(List.range p.Long.toNat).map fun i:Nat=>(⟨p.At+(i:Int),[]⟩:outref1_origin):=by
 rcases h with ⟨h1,h2,h3⟩ | ⟨h1,h2⟩
 ·unfold sg
  rw [if_neg h1,h3,List.map_map]
  simp only [Int.toNat_zero,List.range_zero,List.map_nil,List.append_nil]
  apply List.map_congr_left
  intro c _
  simp [toO]
 ·unfold sg
  rw [if_pos h1,h1,List.map_map]
  simp only [List.map_nil,List.nil_append]
  apply List.map_congr_left
  intro i _
  simp [toO]
theorem from_loop {Z:Type} {old:Int} (ho:old≤65536) (K:List outref1_origin→Option Z) {N:Nat} (hN:1099511627776≤N):∀ (l:List Pc) (i:Nat) (o:List outref1_origin),(∀ p ∈ l,Pok old p)→(o.length:Int)+tot l≤131072 →
  forL l i (fun i_731 p_733 o3_660 nx_730 k_729 =>
  jp (S:=List outref1_origin) (fun o3_766 =>
   nx_730 o3_766) fun k_767 =>
  jp (S:=List outref1_origin) (fun o3_779 =>
   loopN N (fun s nx_787 k_786 =>
    match s with
    | (t55_783,o3_784) =>
     bif decide (t55_783 < p_733.Long) then
      chk ((o3_784++[(outref1_origin.mk (IntKind.i64.wrap (p_733.At+t55_783)) [])]).length≤274877906944) <|
      nx_787 (IntKind.i64.wrap (t55_783+1),o3_784++[(outref1_origin.mk (IntKind.i64.wrap (p_733.At+t55_783)) [])])
     else
     k_786 (t55_783,o3_784)) (0,o3_779) (fun s=>match s with
    | (t55_783,o3_784) =>
     k_767 o3_784)) fun k_780 =>
  loopN N (fun s nx_797 k_796 =>
   match s with
   | (t39_792,o3_793) =>
    bif decide (t39_792 < (p_733.Data.length:Int)) then
     chk (0≤t39_792∧t39_792≤(p_733.Data.length:Int)∧0≤IntKind.i64.wrap (t39_792+1)∧IntKind.i64.wrap (t39_792+1)≤(p_733.Data.length:Int)∧t39_792≤IntKind.i64.wrap (t39_792+1)) <|
     chk ((o3_793++[(outref1_origin.mk (-1) (List.take ((IntKind.i64.wrap (t39_792+1)).toNat - t39_792.toNat) (List.drop t39_792.toNat p_733.Data)))]).length≤274877906944) <|
     nx_797 (IntKind.i64.wrap (t39_792+1),o3_793++[(outref1_origin.mk (-1) (List.take ((IntKind.i64.wrap (t39_792+1)).toNat - t39_792.toNat) (List.drop t39_792.toNat p_733.Data)))])
    else
    k_796 (t39_792,o3_793)) (0,o3_660) (fun s=>match s with
   | (t39_792,o3_793) =>
    k_780 o3_793)) o K=K (o++(sgs l).map toO)
 | [],i,o,_,_=>by simp [forL,sgs]
 | p::l,i,o,h,hl=>by
  have hp:=h p (by simp)
  have e2:tot (p::l)=psz p+tot l:=by simp [tot]
  have hn:=tot_nn (l:=l) fun q hq=>(h q (by simp [hq])).pk
  have hz:=(sg_len hp.pk).1
  have ih:=from_loop ho K hN l (i+1) (o++(sg p).map toO) (fun q hq=>h q (by simp [hq])) (by rw [List.length_append,List.length_map]; omega)
  unfold forL
  dsimp only
  refine jp_run fun K2 hK2=>?_
  refine jp_run fun K3 hK3=>?_
  have hlen:(o.length:Int)+p.Data.length+p.Long.toNat≤131072∧∃ m:Nat,p.Long=(m:Int):=by
   unfold psz at hz e2
   rcases hp with ⟨a,b,c⟩ | ⟨a,b,c,_⟩
   ·rw [if_neg a] at e2; exact ⟨by rw [c]; simp; omega,0,c⟩
   ·rw [if_pos a] at e2; exact ⟨by rw [a]; simp; omega,p.Long.toNat,by omega⟩
  obtain ⟨hlen,m,hm⟩:=hlen
  rw [hm,Int.toNat_natCast] at hlen
  refine (data_loop p.Data o K3 (by omega) hN).trans ?_
  rw [hK3,hm]
  have hat:0≤p.At∧p.At+m≤65536:=by
   rcases hp with ⟨a,b,c⟩ | ⟨a,b,c,d⟩ <;> omega
  refine (long_loop p.At m hat.1 hat.2 _ K2 (by simp; omega) hN).trans ?_
  rw [hK2]
  have e3:=sg_toO hp.pk
  rw [hm,Int.toNat_natCast] at e3
  rw [List.append_assoc,← e3]
  refine ih.trans ?_
  rw [List.append_assoc,← List.map_append]
  rfl
theorem back_loop {Z:Type} (K:List Pc→Option Z):∀ (l:List outref1_origin) (i:Nat) (o:List Pc),o.length+l.length≤1000000 →
  forL l i (fun i_585 o_587 o4_579 nx_584 k_583 =>
    bif decide (o_587.at_ < 0) then
     chk ((o4_579++[(api_Piece.mk 0 0 o_587.data)]).length≤274877906944) <|
     nx_584 (o4_579++[(api_Piece.mk 0 0 o_587.data)])
    else
    chk ((o4_579++[(api_Piece.mk o_587.at_ 1 [])]).length≤274877906944) <|
    nx_584 (o4_579++[(api_Piece.mk o_587.at_ 1 [])])) o (fun o4_579=>K o4_579)=K (o++l.map frO)
 | [],i,o,_=>by simp [forL]
 | x::l,i,o,h=>by
  simp only [List.length_cons] at h
  have ih:=back_loop K l (i+1) (o++[frO x]) (by simp; omega)
  rw [List.append_assoc] at ih
  unfold forL
  dsimp only
  by_cases hx:x.at_ < 0
  ·have e:frO x=⟨0,0,x.data⟩:=if_pos hx
   rw [decide_eq_true hx,cond_true,chk_true (by simp; omega),← e]
   exact ih
  ·have e:frO x=⟨x.at_,1,[]⟩:=if_neg hx
   rw [decide_eq_false hx,cond_false,chk_true (by simp; omega),← e]
   exact ih
theorem rcomp_loop {Z:Type} {d:api_Delta} (hd:Dok d) (K:List Pc→Option Z):∀ (l:List Pc) (i:Nat) (o:List Pc),(∀ p ∈ l,Pok d.New p∧p.Data.length≤1048576)→(o++l.flatMap (lrF d.Pieces)).length≤131072 →
  forL l i (fun i_549 p_551 o4_506 nx_548 k_547 =>
   jp (S:=List api_Piece) (fun o4_570 =>
    nx_548 o4_570) fun k_571 =>
   bif !decide (p_551.Data=[]) then
    chk ((o4_506++[p_551]).length≤274877906944) <|
    k_571 (o4_506++[p_551])
   else
   chk (0≤p_551.At∧p_551.At≤(((sgs d.Pieces).map toO).length:Int)∧0≤IntKind.i64.wrap (p_551.At+p_551.Long)∧IntKind.i64.wrap (p_551.At+p_551.Long)≤(((sgs d.Pieces).map toO).length:Int)∧p_551.At≤IntKind.i64.wrap (p_551.At+p_551.Long)) <|
   forL (List.take ((IntKind.i64.wrap (p_551.At+p_551.Long)).toNat - p_551.At.toNat) (List.drop p_551.At.toNat ((sgs d.Pieces).map toO))) 0 (fun i_585 o_587 o4_579 nx_584 k_583 =>
    bif decide (o_587.at_ < 0) then
     chk ((o4_579++[(api_Piece.mk 0 0 o_587.data)]).length≤274877906944) <|
     nx_584 (o4_579++[(api_Piece.mk 0 0 o_587.data)])
    else
    chk ((o4_579++[(api_Piece.mk o_587.at_ 1 [])]).length≤274877906944) <|
    nx_584 (o4_579++[(api_Piece.mk o_587.at_ 1 [])])) o4_506 (fun o4_579 =>
    k_571 o4_579)) o K=K (o++l.flatMap (lrF d.Pieces))
 | [],i,o,_,_=>by simp [forL]
 | p::l,i,o,h,hl=>by
  have hp:=h p (by simp)
  rw [List.flatMap_cons] at hl ⊢
  have ih:=rcomp_loop hd K l (i+1) (o++lrF d.Pieces p) (fun q hq=>h q (by simp [hq])) (by rw [List.append_assoc]; exact hl)
  rw [List.append_assoc] at ih
  have hdo:=(de_ok hd.ok).2
  have hpk:∀ q ∈ d.Pieces,Pok d.Old q:=fun q hq=>(hd.pok q hq).1
  have hln:((sgs d.Pieces).length:Int)=d.New:=by
   rw [(sgs_len fun q hq=>(hpk q hq).pk).1,Dok_new hd]
  unfold forL
  dsimp only
  refine jp_run fun K2 hK2=>?_
  by_cases hpd:p.Data=[]
  ·rcases hp.1 with hp1 | ⟨_,p1,p2,p3⟩
   ·exact absurd hpd hp1.1
   have e:lrF d.Pieces p=win (sgs d.Pieces) p.At.toNat (p.At+p.Long).toNat:=if_pos hpd
   rw [decide_eq_true hpd,Bool.not_true,cond_false,wrapS (n:=p.At+p.Long) (by omega) (by omega),chk_true (by rw [List.length_map]; omega)]
   rw [← List.drop_take]
   have e3:List.drop p.At.toNat (List.take (p.At+p.Long).toNat ((sgs d.Pieces).map toO))=(win (sgs d.Pieces) p.At.toNat (p.At+p.Long).toNat).map toO:=win_map toO _ _ _
   rw [e3,← e]
   have hl1:o.length+(lrF d.Pieces p).length≤131072:=by rw [List.length_append,List.length_append] at hl; omega
   refine (back_loop K2 _ 0 o (by rw [List.length_map]; omega)).trans ?_
   rw [hK2,List.map_map]
   have e4:(lrF d.Pieces p).map (frO ∘ toO)=lrF d.Pieces p:=by
    have:∀ s ∈ lrF d.Pieces p,(frO ∘ toO) s=s:=fun s hs=>by
     rw [e] at hs
     exact fr_to hpk (mem_win hs)
    rw [List.map_congr_left this,List.map_id']
   rw [e4]
   exact ih
  ·have e:lrF d.Pieces p=[p]:=if_neg hpd
   rw [e] at ih hl ⊢
   rw [List.length_append,List.length_append] at hl
   rw [decide_eq_false hpd,Bool.not_false,cond_true,chk_true (by simp only [List.length_append,List.length_cons,List.length_nil] at hl ⊢; omega),hK2]
   exact ih
theorem Composed_eq {d e:api_Delta} (hd:Dok d) (he:Dok e):R_Composed d e=some (comp d e (e.Pieces.flatMap (lrF d.Pieces))):=by
 have hf:=lp_few hd he
 obtain ⟨d1,d2,d3⟩:=de_ok hd.ok
 obtain ⟨e1,e2,e3⟩:=de_ok he.ok
 unfold R_Composed comp
 by_cases h1:d.New=e.Old
 rotate_left
 ·rw [decide_eq_false h1,if_neg (by simp [h1])]; rfl
 by_cases h2:d.NewSum=e.OldSum
 rotate_left
 ·rw [decide_eq_false h2,if_neg (by simp [h2])]; simp [zDc]
 rw [decide_eq_true h1,decide_eq_true h2,if_pos ⟨h1,h2⟩]
 simp only [Bool.not_true,Bool.or_self,cond_false]
 obtain ⟨N,hN⟩:∃ N,Fuel=N:=⟨_,rfl⟩
 have hF:1099511627776≤N:=hN ▸ fuel_ge
 rw [hN]
 clear hN
 refine jp_run fun K hK=>?_
 refine (from_loop d2 K hF d.Pieces 0 [] (fun p hp=>(hd.pok p hp).1) (by have:=hd.tot; simp; omega)).trans ?_
 rw [hK,List.nil_append]
 refine jp_run fun K2 hK2=>?_
 refine (rcomp_loop hd K2 e.Pieces 0 [] (by rw [h1]; exact he.pok) (by simp only [List.nil_append]; omega)).trans ?_
 rw [hK2,List.nil_append,Joined_eq d2 _ (lr_pok hd he) (by omega),call_some]
 by_cases h3:5000 < (jns (e.Pieces.flatMap (lrF d.Pieces))).length
 ·rw [decide_eq_true (by omega),if_pos h3]; rfl
 ·rw [decide_eq_false (by omega),if_neg h3]; rfl
theorem Compose_no {d e:api_Delta} (hd:Dok d) (he:de e ≠ 0):delta_Compose d e=some (zDc,de e):=by
 unfold delta_Compose
 rw [jp_eq,Check_eq,call_some,hd.ok,Check_eq,call_some,decide_eq_true rfl,decide_eq_false he]
 rfl
theorem range_cut (a:Str) (x:Nat):∀ m:Nat,x+m≤a.length→((List.range m).flatMap fun i=>(a.drop (x+i)).take 1)=(a.drop x).take m
 | 0,_=>by simp
 | m+1,h=>by
  rw [List.range_succ,List.flatMap_append,range_cut a x m (by omega)]
  simp only [List.flatMap_cons,List.flatMap_nil,List.append_nil]
  have hl:m < (a.drop x).length:=by simp; omega
  rw [List.take_succ_eq_append_getElem hl]
  congr 1
  rw [List.drop_eq_getElem_cons (show x+m < a.length by omega),List.take_succ_cons,List.take_zero,List.getElem_drop]
theorem pm_sg {a:Str} {p:Pc} (h:Pok a.length p):(sg p).flatMap (pm a)=pm a p∧∀ s ∈ sg p,(pm a s).length=1:=by
 unfold sg
 rcases h with ⟨h1,h2,h3⟩ | ⟨h1,h2,h3,h4⟩
 ·rw [if_neg h1]
  refine ⟨?_,fun s hs=>?_⟩
  ·have e:pm a p=p.Data:=if_neg h1
   rw [e,List.flatMap_map]
   have:∀ x:Str,(x.flatMap fun c=>pm a ⟨0,0,[c]⟩)=x:=by
    intro x
    induction x with
    | nil=>rfl
    | cons c x ih=>rw [List.flatMap_cons,ih]; rfl
   exact this p.Data
  ·obtain ⟨c,_,rfl⟩:=List.mem_map.1 hs
   rfl
 ·rw [if_pos h1]
  refine ⟨?_,fun s hs=>?_⟩
  ·have e:pm a p=(a.drop p.At.toNat).take p.Long.toNat:=if_pos h1
   rw [e,List.flatMap_map,← range_cut a p.At.toNat p.Long.toNat (by omega)]
   congr 1
   funext i
   show (a.drop (p.At+(i:Int)).toNat).take 1=_
   rw [show (p.At+(i:Int)).toNat=p.At.toNat+i by omega]
  ·obtain ⟨i,hi,rfl⟩:=List.mem_map.1 hs
   rw [List.mem_range] at hi
   show ((a.drop (p.At+(i:Int)).toNat).take 1).length=1
   simp; omega
theorem made_sgs {a:Str}:∀ {l:List Pc},(∀ p ∈ l,Pok a.length p)→made a (sgs l)=made a l∧∀ s ∈ sgs l,(pm a s).length=1
 | [],_=>⟨rfl,fun s hs=>by simp [sgs] at hs⟩
 | p::l,h=>by
  obtain ⟨h1,h2⟩:=pm_sg (h p (by simp))
  obtain ⟨i1,i2⟩:=made_sgs (l:=l) fun q hq=>h q (by simp [hq])
  have e:sgs (p::l)=sg p++sgs l:=rfl
  refine ⟨?_,fun s hs=>?_⟩
  ·rw [e]
   unfold made at i1 ⊢
   rw [List.flatMap_append,i1,h1,List.flatMap_cons]
  ·rw [e,List.mem_append] at hs
   exact hs.elim (h2 s) (i2 s)
theorem made_one {a:Str}:∀ {S:List Pc},(∀ s ∈ S,(pm a s).length=1)→(made a S).length=S.length∧(∀ n,made a (S.take n)=(made a S).take n)∧∀ n,made a (S.drop n)=(made a S).drop n
 | [],_=>⟨rfl,fun n=>by simp [made],fun n=>by simp [made]⟩
 | s::S,h=>by
  obtain ⟨i1,i2,i3⟩:=made_one (S:=S) fun x hx=>h x (by simp [hx])
  have hs:=h s (by simp)
  have e:∀ T,made a (s::T)=pm a s++made a T:=fun T=>rfl
  refine ⟨by rw [e,List.length_append,hs,i1]; simp; omega,fun n=>?_,fun n=>?_⟩
  ·cases n with
   | zero=>simp [made]
   | succ n =>
    rw [List.take_succ_cons,e,e,i2,List.take_append,hs,List.take_of_length_le (l:=pm a s) (by omega)]
    simp
  ·cases n with
   | zero=>rfl
   | succ n =>
    rw [List.drop_succ_cons,e,i3,List.drop_append,hs,List.drop_eq_nil_of_le (show (pm a s).length≤n+1 by omega)]
    simp
theorem made_win {a:Str} {S:List Pc} (h:∀ s ∈ S,(pm a s).length=1) (lo hi:Nat):made a (win S lo hi)=win (made a S) lo hi:=by
 unfold win
 rw [(made_one fun s hs=>h s (List.mem_of_mem_take hs)).2.2,(made_one h).2.1]
theorem made_lr {a b:Str} {D:List Pc} (hD:∀ p ∈ D,Pok a.length p) (hb:made a D=b):∀ l:List Pc,(∀ p ∈ l,Pok b.length p)→made a (l.flatMap (lrF D))=made b l
 | [],_=>rfl
 | p::l,h=>by
  have hp:=h p (by simp)
  obtain ⟨m1,m2⟩:=made_sgs hD
  have ih:=made_lr hD hb l fun q hq=>h q (by simp [hq])
  have e:made b (p::l)=pm b p++made b l:=rfl
  have e2:made a (lrF D p++l.flatMap (lrF D))=made a (lrF D p)++made a (l.flatMap (lrF D)):=by simp [made]
  rw [List.flatMap_cons,e2,ih,e]
  congr 1
  unfold lrF pm
  rcases hp with ⟨h1,_⟩ | ⟨h1,h2,h3,h4⟩
  ·rw [if_neg h1,if_neg h1]
   simp [made,pm,h1]
  ·rw [if_pos h1,if_pos h1,made_win m2,m1,hb]
   unfold win
   rw [List.drop_take]
   congr 1
   omega
theorem jn_pok {old:Int}:∀ (l:List Pc) (c:Pc),Pok old c→(∀ p ∈ l,Pok old p)→∀ p ∈ jn c l,Pok old p
 | [],c,hc,_,p,hp=>by simp only [jn,List.mem_singleton] at hp; subst hp; exact hc
 | q::l,c,hc,h,p,hp=>by
  have hq:=h q (by simp)
  have hl:∀ p ∈ l,Pok old p:=fun p hp=>h p (by simp [hp])
  simp only [jn] at hp
  split at hp
  ·rename_i hm
   exact jn_pok l _ (mrg_ok hc hq hm) hl p hp
  ·rcases List.mem_cons.1 hp with rfl | hp
   ·exact hc
   ·exact jn_pok l q hq hl p hp
theorem jns_pok {old:Int} {l:List Pc} (h:∀ p ∈ l,Pok old p):∀ p ∈ jns l,Pok old p:=by
 cases l with
 | nil=>intro p hp; simp [jns] at hp
 | cons q l=>exact jn_pok l q (h q (by simp)) fun p hp=>h p (by simp [hp])
theorem comp_ok {a b c:Str} (ha:a.length≤600) (hb:b.length≤600) (hc:c.length≤600) {l:List Pc} (hl:l=(mkD b c).Pieces.flatMap (lpF (mkD a b).Pieces)) (h5:(jns l).length≤5000) :
  Dok ⟨(a.length:Int),(c.length:Int),sumS a,sumS c,jns l⟩∧patch a ⟨(a.length:Int),(c.length:Int),sumS a,sumS c,jns l⟩=(c,0):=by
 have hd:=mkD_ok ha hb
 have he:=mkD_ok hb hc
 have hp:∀ p ∈ l,Pok a.length p:=fun p hp=>by rw [hl] at hp; exact (lp_pok hd he p hp).1
 have hj:=jns_pok hp
 obtain ⟨s1,s2⟩:=sgs_jns l fun p h=>(hp p h).pk
 have hr:∀ p ∈ (mkD b c).Pieces.flatMap (lrF (mkD a b).Pieces),Pok a.length p:=fun p h=>(lr_pok hd he p h).1
 have hm:made a (jns l)=c:=by
  rw [← (made_sgs hj).1,s1,hl,lp_lr hd,(made_sgs hr).1,made_lr (fun p h=>(hd.pok p h).1) (mkD_made a b) _ (fun p h=>(he.pok p h).1)]
  exact mkD_made b c
 have ht:tot (jns l)=(c.length:Int):=by
  rw [← (sgs_len s2).1,← (made_one (made_sgs hj).2).1,(made_sgs hj).1,hm]
 refine ⟨⟨?_,fun p h=>?_⟩,?_⟩
 ·have hpe:pe (jns l) (a.length:Int)=((c.length:Int),0):=by
   unfold pe
   rw [bif_f (by rw [decide_eq_false (by omega),decide_eq_false (by omega)]; rfl),bif_f (decide_eq_false (by omega)),peL_good _ 0 hj (by omega) (by omega) (by omega),ht,Int.zero_add]
  unfold de
  dsimp only
  rw [hpe,isS_sumS,isS_sumS,bif_f (by rw [decide_eq_false (show ¬ ((a.length:Int) < 0) by omega),decide_eq_false (show ¬ ((65536:Int) < (a.length:Int)) by omega),decide_eq_false (show ¬ ((c.length:Int) < 0) by omega),decide_eq_false (show ¬ ((65536:Int) < (c.length:Int)) by omega)]; rfl)]
  simp
 ·have:=(tot_mem (jns l) hj).1 p h
  omega
 ·unfold patch
  dsimp only
  rw [hm]
  rw [if_neg (by simp),if_neg (by simp)]
theorem law_dc (a b c:Str) (other:api_Delta) (hs:∀ p ∈ other.Pieces,p.Data.length≤1048576) (mixed:Bool):Law_DeltasCompose a b c other mixed=some true:=by
 unfold Law_DeltasCompose
 rw [landed_eq,call_some,Bool.not_true,cond_false,short_eq,call_some,short_eq,call_some,short_eq,call_some]
 have ha:=short_len a
 have hb:=short_len b
 have hc:=short_len c
 generalize a.take 600=a at ha ⊢
 generalize b.take 600=b at hb ⊢
 generalize c.take 600=c at hc ⊢
 have M:delta_Make a b=some (mkD a b,0):=Make_eq a b ha hb
 have M2:delta_Make b c=some (mkD b c,0):=Make_eq b c hb hc
 have ok:=mkD_ok ha hb
 have ok2:=mkD_ok hb hc
 rw [M,call_some,M2,call_some]
 simp only [decide_true,Bool.not_true,Bool.or_self,cond_false]
 refine jp_run fun K hK=>?_
 have go:∀ e:api_Delta,(∀ p ∈ e.Pieces,p.Data.length≤1048576)→(mixed=false→e=mkD b c)→K (e.Old,e.New,e.OldSum,e.NewSum,e.Pieces)=some true:=by
  intro e hse hm
  rw [hK]
  dsimp only
  show (call (delta_Compose (mkD a b) e) fun r_18=>call (R_DeltaError e) fun r_19=>_)=_
  rw [DeltaError_eq]
  by_cases h:de e=0
  ·have oke:Dok e:=⟨h,hse⟩
   rw [Compose_eq ok oke,call_some,call_some,h]
   simp only [decide_true,Bool.not_true,cond_false]
   show (call (R_Composed (mkD a b) e) fun r_21=>_)=_
   have hcc:comp (mkD a b) e (e.Pieces.flatMap (lrF (mkD a b).Pieces))=comp (mkD a b) e (e.Pieces.flatMap (lpF (mkD a b).Pieces)):=by
    unfold comp
    rw [jns_lp ok oke]
   rw [Composed_eq ok oke,call_some,hcc]
   simp only [decide_true,Bool.not_true,Bool.not_false,same_refl,callG_some,cond_true,Bool.or_self,cond_false]
   by_cases h0:(comp (mkD a b) e (e.Pieces.flatMap (lpF (mkD a b).Pieces))).2=0
   ·rw [decide_eq_true h0]
    cases mixed with
    | true=>simp
    | false =>
     obtain rfl:=hm rfl
     simp only [Bool.not_true,Bool.or_self,cond_false]
     generalize hl:(mkD b c).Pieces.flatMap (lpF (mkD a b).Pieces)=l at h0 ⊢
     have h5:(jns l).length≤5000:=by
      apply Nat.le_of_not_lt
      intro h5
      unfold comp at h0
      rw [if_pos ⟨rfl,rfl⟩,if_pos h5] at h0
      cases h0
     have hcomp:comp (mkD a b) (mkD b c) l=(⟨(a.length:Int),(c.length:Int),sumS a,sumS c,jns l⟩,0):=by
      unfold comp
      rw [if_pos ⟨rfl,rfl⟩,if_neg (by omega)]; rfl
     obtain ⟨k1,k2⟩:=comp_ok ha hb hc hl.symm h5
     rw [hcomp]
     dsimp only
     rw [Apply_eq a k1,call_some,k2]
     simp
   ·rw [decide_eq_false h0]; rfl
  ·rw [Compose_no ok h,call_some,call_some]
   rw [decide_eq_false h]
   dsimp only
   rw [decide_eq_true rfl]
   show (callG true (Law_sameDelta zDc zDc) false fun r_20=>some (true && r_20))=some true
   rw [same_refl]; rfl
 cases mixed with
 | true=>exact go other hs (fun h=>by cases h)
 | false=>exact go (mkD b c) (fun p hp=>ok2.sm p hp) (fun _=>rfl)
end Go.Md
