/- A suffix automaton, in plain words. -/
import Derived.Test.YtkekfenkeeiigaaDoorTdMd
set_option linter.unusedSimpArgs false
set_option linter.unusedVariables false
namespace Go.Sfa
open List
abbrev B:=List UInt8

def En (w x:B) (j:Nat):Prop:=j≤w.length∧x <:+ w.take j
def Fc (w x:B):Prop:=∃ j,En w x j
def LM (w x:B):Prop:=Fc w x∧∀ a,∃ j,En w x j∧¬ En w (a::x) j
def Top (w x y:B):Prop:=x <:+ y∧(∀ j,En w x j→En w y j)∧LM w y

theorem suf_cmp {x y z:B} (hx:x <:+ z) (hy:y <:+ z):x <:+ y ∨ y <:+ x:=by
 rcases Nat.le_total x.length y.length with h | h
 ·exact .inl (suffix_of_suffix_length_le hx hy h)
 ·exact .inr (suffix_of_suffix_length_le hy hx h)
theorem suf_ne {x y:B} (h:x <:+ y) (hn:x ≠ y):∃ a,(a::x) <:+ y:=by
 obtain ⟨t,rfl⟩:=h
 rcases eq_nil_or_concat t with rfl | ⟨t,a,rfl⟩
 ·exact absurd rfl hn
 ·exact ⟨a,t,by simp⟩
theorem suf_anti {x y:B} (h:x <:+ y) (k:y <:+ x):x=y:=h.eq_of_length (Nat.le_antisymm h.length_le k.length_le)
theorem suf_cons {a:UInt8} {x y:B} (h:(a::x) <:+ y):x <:+ y:=(suffix_cons a x).trans h
theorem cons_inj {a b:UInt8} {x z:B} (h:(a::x) <:+ z) (k:(b::x) <:+ z):a=b:=by
 have:=suffix_of_suffix_length_le h k (by simp)
 have:=this.eq_of_length (by simp)
 simpa using this
theorem En.suf {w x y:B} {j:Nat} (h:En w y j) (k:x <:+ y):En w x j:=⟨h.1,k.trans h.2⟩
theorem Fc.suf {w x y:B} (h:Fc w y) (k:x <:+ y):Fc w x:=h.elim fun j h=>⟨j,h.suf k⟩
theorem En.len {w x:B} {j:Nat} (h:En w x j):x.length≤j:=by have:=h.2.length_le; rw [length_take] at this; omega
theorem Fc.len {w x:B} (h:Fc w x):x.length≤w.length:=h.elim fun _ h=>Nat.le_trans h.len h.1
theorem LM.nil (w:B):LM w []:=⟨⟨0,Nat.zero_le _,by simp⟩,fun a=>⟨0,⟨Nat.zero_le _,by simp⟩,fun h=>by have:=h.len; simp at this⟩⟩
theorem LM.max {w y z:B} (h:LM w y) (k:y <:+ z) (hs:∀ j,En w y j→En w z j):y=z:=by
 refine Classical.byContradiction fun hn=>?_
 obtain ⟨a,ha⟩:=suf_ne k hn
 obtain ⟨j,h1,h2⟩:=h.2 a
 exact h2 ((hs j h1).suf ha)
theorem Top.fc {w x y:B} (h:Top w x y):Fc w x:=h.2.2.1.suf h.1
theorem Top.uniq {w x y z:B} (h:Top w x y) (k:Top w x z):y=z:=by
 obtain ⟨j,hj⟩:=h.fc
 rcases suf_cmp (h.2.1 j hj).2 (k.2.1 j hj).2 with c | c
 ·exact h.2.2.max c fun i hi=>k.2.1 i (hi.suf h.1)
 ·exact (k.2.2.max c fun i hi=>h.2.1 i (hi.suf k.1)).symm
theorem Top.self {w x:B} (h:LM w x):Top w x x:=⟨suffix_refl _,fun _ h=>h,h⟩
theorem Top.ex {w:B}:∀ (n:Nat) {x:B},w.length - x.length≤n→Fc w x→∃ y,Top w x y
 | n,x,hn,hx=>by
  rcases Classical.em (LM w x) with h | h
  ·exact ⟨x,.self h⟩
  ·have:∃ a,∀ j,En w x j→En w (a::x) j:=by
    refine Classical.byContradiction fun hh=>h ⟨hx,fun a=>?_⟩
    refine Classical.byContradiction fun h2=>hh ⟨a,fun j hj=>Classical.byContradiction fun h3=>h2 ⟨j,hj,h3⟩⟩
   obtain ⟨a,ha⟩:=this
   have hf:Fc w (a::x):=hx.elim fun j hj=>⟨j,ha j hj⟩
   have hl:=hf.len
   simp at hl
   cases n with
   | zero=>omega
   | succ n =>
    obtain ⟨y,h1,h2,h3⟩:=Top.ex n (x:=a::x) (by simp; omega) hf
    exact ⟨y,suf_cons h1,fun j hj=>h2 j (ha j hj),h3⟩

section
variable {w:B} {c:UInt8}
theorem En.old {x:B} {j:Nat} (hj:j≤w.length):En (w++[c]) x j ↔ En w x j:=by
 unfold En
 rw [take_append_of_le_length hj]
 simp only [length_append,length_cons,length_nil]
 exact ⟨fun h=>⟨hj,h.2⟩,fun h=>⟨by omega,h.2⟩⟩
theorem En.up {x:B} {j:Nat} (h:En w x j):En (w++[c]) x j:=(En.old h.1).2 h
theorem En.end {x:B}:En (w++[c]) x (w.length+1) ↔ x <:+ w++[c]:=by
 unfold En
 rw [take_of_length_le (by simp)]
 simp
theorem En.cases {x:B} {j:Nat} (h:En (w++[c]) x j):En w x j ∨ (j=w.length+1∧x <:+ w++[c]):=by
 rcases Nat.lt_or_ge w.length j with hj | hj
 ·have:=h.1; simp at this
  obtain rfl:j=w.length+1:=by omega
  exact .inr ⟨rfl,En.end.1 h⟩
 ·exact .inl ((En.old hj).1 h)
theorem Fc.up {x:B} (h:Fc w x):Fc (w++[c]) x:=h.elim fun j h=>⟨j,h.up⟩
theorem Fc.end {x:B} (h:x <:+ w++[c]):Fc (w++[c]) x:=⟨_,En.end.2 h⟩
theorem Fc.cases {x:B} (h:Fc (w++[c]) x):Fc w x ∨ x <:+ w++[c]:=h.elim fun _ h=>h.cases.elim (fun h=>.inl ⟨_,h⟩) fun h=>.inr h.2
theorem En.snoc {x:B} {d:UInt8} {j:Nat}:En w (x++[d]) (j+1) ↔ En w x j∧w[j]?=some d:=by
 unfold En
 rcases Nat.lt_or_ge j w.length with h | h
 ·rw [take_succ_eq_append_getElem h,getElem?_eq_getElem h]
  constructor
  ·rintro ⟨h1,t,ht⟩
   rw [← append_assoc] at ht
   have:=append_inj' ht rfl
   simp only [cons.injEq,and_true] at this
   exact ⟨⟨by omega,t,this.1⟩,by rw [this.2]⟩
  ·rintro ⟨⟨h1,t,ht⟩,h2⟩
   simp only [Option.some.injEq] at h2
   exact ⟨h,t,by rw [← append_assoc,ht,h2]⟩
 ·constructor
  ·intro h'; omega
  ·intro h'; rw [getElem?_eq_none h] at h'; exact absurd h'.2 (by simp)
theorem not_zero {x:B} {d:UInt8}:¬ En w (x++[d]) 0:=fun h=>by have:=h.len; simp at this
theorem Fc.suf' {x:B} {d:UInt8} (h:Fc w (x++[d])):Fc w x:=by
 obtain ⟨j,hj⟩:=h
 cases j with
 | zero=>exact absurd hj not_zero
 | succ j=>exact ⟨j,(En.snoc.1 hj).1⟩
theorem LM.up {x:B} (h:LM w x):LM (w++[c]) x:=⟨h.1.up,fun a=>(h.2 a).elim fun j h=>⟨j,h.1.up,fun k=>h.2 ((En.old h.1.1).1 k)⟩⟩
theorem LM.all:LM (w++[c]) (w++[c]):=⟨.end (suffix_refl _),fun a=>⟨_,En.end.2 (suffix_refl _),fun h=>by have:=h.len; simp at this; omega⟩⟩
structure Zz (w:B) (c:UInt8) (z:B):Prop where
 suf:z <:+ w++[c]
 fc:Fc w z
 max:∀ x,x <:+ w++[c]→Fc w x→x <:+ z
theorem Zz.lm {z:B} (h:Zz w c z):LM (w++[c]) z:=⟨.end h.suf,fun a=>by
 rcases Classical.em (a::z <:+ w++[c]) with k | k
 ·obtain ⟨j,hj⟩:=h.fc
  refine ⟨j,hj.up,fun hh=>?_⟩
  have:=(h.max _ k ⟨j,(En.old hj.1).1 hh⟩).length_le
  simp at this
  omega
 ·exact ⟨_,En.end.2 h.suf,fun hh=>k (En.end.1 hh)⟩⟩
theorem Zz.ne {z:B} (h:Zz w c z):z ≠ w++[c]:=fun e=>by have:=h.fc.len; rw [e] at this; simp at this; omega
theorem Zz.lms {z x:B} (h:Zz w c z) (k:LM (w++[c]) x):LM w x ∨ x=w++[c] ∨ x=z:=by
 refine Classical.byContradiction fun hn=>?_
 have h1:¬ LM w x:=fun k=>hn (.inl k)
 have h2:x ≠ w++[c]:=fun k=>hn (.inr (.inl k))
 have h3:x ≠ z:=fun k=>hn (.inr (.inr k))
 rcases Classical.em (Fc w x) with hf | hf
 ·have:∃ a,∀ j,En w x j→En w (a::x) j:=by
   refine Classical.byContradiction fun hh=>h1 ⟨hf,fun a=>?_⟩
   refine Classical.byContradiction fun h2=>hh ⟨a,fun j hj=>Classical.byContradiction fun h3=>h2 ⟨j,hj,h3⟩⟩
  obtain ⟨a,ha⟩:=this
  obtain ⟨j,hj,hn⟩:=k.2 a
  rcases hj.cases with hj' | ⟨rfl,hj'⟩
  ·exact hn (ha j hj').up
  ·obtain ⟨b,hb⟩:=suf_ne (h.max x hj' hf) h3
   obtain ⟨i,hi⟩:=h.fc
   have e:=cons_inj (ha i (hi.suf (suf_cons hb))).2 (hi.suf hb).2
   subst e
   exact hn (En.end.2 (hb.trans h.suf))
 ·have hx:x <:+ w++[c]:=k.1.cases.elim (fun h=>absurd h hf) id
  obtain ⟨a,ha⟩:=suf_ne hx h2
  obtain ⟨j,hj,hn⟩:=k.2 a
  rcases hj.cases with hj' | ⟨rfl,_⟩
  ·exact hf ⟨j,hj'⟩
  ·exact hn (En.end.2 ha)
theorem Top.keep {x y:B} (h:Top w x y) (k:x <:+ w++[c]→y <:+ w++[c]):Top (w++[c]) x y :=
 ⟨h.1,fun j hj=>hj.cases.elim (fun hj=>(h.2.1 j hj).up) fun hj=>hj.1 ▸ En.end.2 (k hj.2),h.2.2.up⟩
theorem Zz.top {x y z:B} (hz:Zz w c z) (h:Top w x y) (hx:x <:+ w++[c]) (hy:¬ y <:+ w++[c]):Top (w++[c]) x z∧Top w z y:=by
 have hxz:=hz.max x hx h.fc
 obtain ⟨j0,h0⟩:=hz.fc
 have hzy:z <:+ y:=by
  rcases suf_cmp h0.2 (h.2.1 j0 (h0.suf hxz)).2 with k | k
  ·exact k
  ·exact absurd (k.trans hz.suf) hy
 exact ⟨⟨hxz,fun j hj=>hj.cases.elim (fun hj=>((h.2.1 j hj).suf hzy).up) fun hj=>hj.1 ▸ En.end.2 hz.suf,hz.lm⟩,hzy,fun j hj=>h.2.1 j (hj.suf hxz),h.2.2⟩
theorem Top.all {x:B} (hx:x <:+ w++[c]) (hn:¬ Fc w x):Top (w++[c]) x (w++[c]) :=
 ⟨hx,fun j hj=>hj.cases.elim (fun hj=>absurd ⟨j,hj⟩ hn) fun hj=>hj.1 ▸ En.end.2 (suffix_refl _),.all⟩
theorem Top.same {x y t:B} {d:UInt8} (h:x <:+ y) (he:∀ j,En w x j→En w y j):Top (w++[c]) (x++[d]) t ↔ Top (w++[c]) (y++[d]) t:=by
 have hxy:x++[d] <:+ y++[d]:=by obtain ⟨s,rfl⟩:=h; exact ⟨s,by simp⟩
 have go:∀ j,En (w++[c]) (x++[d]) j→En (w++[c]) (y++[d]) j:=fun j hj=>by
  cases j with
  | zero=>exact absurd hj not_zero
  | succ j =>
   rw [En.snoc] at hj ⊢
   refine ⟨?_,hj.2⟩
   have hl:=(List.getElem?_eq_some_iff.1 hj.2).1
   simp at hl
   exact (he j ((En.old (by omega)).1 hj.1)).up
 constructor
 ·intro k
  refine ⟨?_,fun j hj=>k.2.1 j (hj.suf hxy),k.2.2⟩
  obtain ⟨j,hj⟩:=k.fc
  rcases suf_cmp (go j hj).2 (k.2.1 j hj).2 with e | e
  ·exact e
  ·rw [k.2.2.max e fun i hi=>go i (hi.suf k.1)]
   exact suffix_refl _
 ·intro k
  exact ⟨hxy.trans k.1,fun j hj=>k.2.1 j (go j hj),k.2.2⟩
end
end Go.Sfa
namespace Go.Sfa
open List
structure Vw where
 n:Nat
 lg:Nat→Nat
 fi:Nat→Nat
 lk:Nat→Option Nat
 nx:Nat→UInt8→Option Nat
def Lk (w x y:B):Prop:=y <:+ x∧y ≠ x∧LM w y∧∀ z,LM w z→z <:+ x→z ≠ x→z <:+ y
def Fi (w x:B) (j:Nat):Prop:=En w x j∧∀ i,En w x i→j≤i
structure Inv (w:B) (v:Vw) (L:Nat→B) (last:Nat):Prop where
 pos:0 < v.n
 l0:L 0=[]
 lm:∀ s,s < v.n→LM w (L s)
 inj:∀ s t,s < v.n→t < v.n→L s=L t→s=t
 cov:∀ x,LM w x→∃ s,s < v.n∧L s=x
 lg:∀ s,s < v.n→v.lg s=(L s).length
 fi:∀ s,s < v.n→Fi w (L s) (v.fi s)
 lk0:v.lk 0=none
 lk:∀ s,s < v.n→s ≠ 0→∃ t,v.lk s=some t∧t < v.n∧Lk w (L s) (L t)
 nx:∀ s d t,s < v.n→v.nx s d=some t→t < v.n∧Top w (L s++[d]) (L t)
 nx0:∀ s d,s < v.n→v.nx s d=none→¬ Fc w (L s++[d])
 last:last < v.n∧L last=w

section
variable {w:B} {c:UInt8} {v v':Vw} {L L':Nat→B} {last q:Nat}
theorem suf_snoc {x y:B} {d:UInt8}:x++[d] <:+ y++[c] ↔ x <:+ y∧d=c:=by
 constructor
 ·rintro ⟨t,ht⟩
  rw [← append_assoc] at ht
  have:=append_inj' ht rfl
  simp only [cons.injEq,and_true] at this
  exact ⟨⟨t,this.1⟩,this.2⟩
 ·rintro ⟨⟨t,rfl⟩,rfl⟩
  exact ⟨t,by simp⟩
theorem Fi.up {x:B} {j:Nat} (h:Fi w x j):Fi (w++[c]) x j:=⟨h.1.up,fun i hi=>hi.cases.elim (h.2 i) fun hi=>by have:=h.1.1; omega⟩
theorem Fi.all:Fi (w++[c]) (w++[c]) (w.length+1):=⟨En.end.2 (suffix_refl _),fun i hi=>by have:=hi.len; simpa using this⟩
theorem not_fc:¬ Fc w (w++[c]):=fun h=>by have:=h.len; simp at this; omega
theorem not_fc' {d:UInt8}:¬ Fc (w++[c]) (w++[c]++[d]):=fun h=>by have:=h.len; simp at this
structure Stp (w:B) (c:UInt8) (v v':Vw) (L:Nat→B) (q:Nat):Prop where
 le:v.n < v'.n
 lg:∀ s,s < v.n→v'.lg s=v.lg s
 lgn:v'.lg v.n=w.length+1
 fi:∀ s,s < v.n→v'.fi s=v.fi s
 fin:v'.fi v.n=w.length+1
 nxn:∀ d,v'.nx v.n d=none
 nx1:∀ s,s < v.n→L s <:+ w→v.nx s c=none→v'.nx s c=some v.n

theorem Inv.stepA (h:Inv w v L last) (hz:Zz w c (L q)) (hq:q < v.n) (hS:Stp w c v v' L q) (hn:v'.n=v.n+1) (hlk:∀ s,s < v.n→v'.lk s=v.lk s) (hln:v'.lk v.n=some q)
  (hnx:∀ s d,s < v.n→¬ (d=c∧L s <:+ w∧v.nx s c=none)→v'.nx s d=v.nx s d) (hL:∀ s,s < v.n→L' s=L s) (hLn:L' v.n=w++[c]):Inv (w++[c]) v' L' v.n:=by
 have cs:∀ s,s < v'.n→(s < v.n) ∨ s=v.n:=fun s hs=>by omega
 have lms:∀ {x},LM (w++[c]) x→LM w x ∨ x=w++[c]:=fun {x} hx=>by
  rcases hz.lms hx with k | k | k
  ·exact .inl k
  ·exact .inr k
  ·exact .inl (k ▸ h.lm q hq)
 have top1:∀ {x y},Top w x y→Top (w++[c]) x y:=fun {x y} ht=>ht.keep fun hx=>Classical.byContradiction fun hy=>by
  have:=(hz.top ht hx hy).2.uniq (.self (h.lm q hq))
  exact hy (this ▸ hz.suf)
 refine ⟨by omega,by rw [hL 0 h.pos]; exact h.l0,?_,?_,?_,?_,?_,by rw [hlk 0 h.pos]; exact h.lk0,?_,?_,?_,by omega,hLn⟩
 ·intro s hs
  rcases cs s hs with k | rfl
  ·rw [hL s k]; exact (h.lm s k).up
  ·rw [hLn]; exact .all
 ·intro s t hs ht e
  rcases cs s hs with k | rfl <;> rcases cs t ht with k' | rfl
  ·rw [hL s k,hL t k'] at e; exact h.inj s t k k' e
  ·rw [hL s k,hLn] at e; exact absurd (e ▸ (h.lm s k).1) not_fc
  ·rw [hL t k',hLn] at e; exact absurd (e ▸ (h.lm t k').1) not_fc
  ·rfl
 ·intro x hx
  rcases lms hx with k | rfl
  ·obtain ⟨s,h1,h2⟩:=h.cov x k; exact ⟨s,by omega,by rw [hL s h1]; exact h2⟩
  ·exact ⟨v.n,by omega,hLn⟩
 ·intro s hs
  rcases cs s hs with k | rfl
  ·rw [hL s k,hS.lg s k]; exact h.lg s k
  ·rw [hLn,hS.lgn]; simp
 ·intro s hs
  rcases cs s hs with k | rfl
  ·rw [hL s k,hS.fi s k]; exact (h.fi s k).up
  ·rw [hLn,hS.fin]; exact .all
 ·intro s hs h0
  rcases cs s hs with k | rfl
  ·obtain ⟨t,e1,e2,e3,e4,e5,e6⟩:=h.lk s k h0
   refine ⟨t,by rw [hlk s k]; exact e1,by omega,?_⟩
   rw [hL s k,hL t e2]
   refine ⟨e3,e4,e5.up,fun z hz hzs hne=>?_⟩
   rcases lms hz with k' | rfl
   ·exact e6 z k' hzs hne
   ·exact absurd ((h.lm s k).1.suf hzs) not_fc
  ·refine ⟨q,hln,by omega,?_⟩
   rw [hLn,hL q hq]
   refine ⟨hz.suf,hz.ne,(h.lm q hq).up,fun z hz' hzs hne=>?_⟩
   rcases lms hz' with k' | rfl
   ·exact hz.max z hzs k'.1
   ·exact absurd rfl hne
 ·intro s d t hs ht
  rcases cs s hs with k | rfl
  ·rcases Classical.em (d=c∧L s <:+ w∧v.nx s c=none) with hh | hh
   ·obtain ⟨rfl,h1,h2⟩:=hh
    rw [hS.nx1 s k h1 h2] at ht
    cases ht
    refine ⟨by omega,?_⟩
    rw [hLn,hL s k]
    exact .all (suf_snoc.2 ⟨h1,rfl⟩) (h.nx0 s d k h2)
   ·rw [hnx s d k hh] at ht
    obtain ⟨h1,h2⟩:=h.nx s d t k ht
    refine ⟨by omega,?_⟩
    rw [hL s k,hL t h1]
    exact top1 h2
  ·rw [hS.nxn d] at ht; cases ht
 ·intro s d hs ht hf
  rcases cs s hs with k | rfl
  ·rw [hL s k] at hf
   rcases Classical.em (d=c∧L s <:+ w∧v.nx s c=none) with hh | hh
   ·obtain ⟨rfl,h1,h2⟩:=hh
    rw [hS.nx1 s k h1 h2] at ht
    cases ht
   ·rw [hnx s d k hh] at ht
    rcases hf.cases with h1 | h1
    ·exact h.nx0 s d k ht h1
    ·obtain ⟨h2,rfl⟩:=suf_snoc.1 h1
     exact hh ⟨rfl,h2,ht⟩
  ·rw [hLn] at hf; exact not_fc' hf

theorem Inv.stepB (h:Inv w v L last) {z:B} (hz:Zz w c z) (hq:q < v.n) (hzq:Top w z (L q)) (hne:z ≠ L q) (hS:Stp w c v v' L q) (hn:v'.n=v.n+2) (hlk:∀ s,s < v.n→s ≠ q→v'.lk s=v.lk s)
  (hlq:v'.lk q=some (v.n+1)) (hln:v'.lk v.n=some (v.n+1)) (hlh:v'.lk (v.n+1)=v.lk q) (hlg:v'.lg (v.n+1)=z.length) (hfi:v'.fi (v.n+1)=v.fi q)
  (hnx2:∀ s,s < v.n→L s <:+ w→v.nx s c=some q→v'.nx s c=some (v.n+1))
  (hnx:∀ s d,s < v.n→¬ (d=c∧L s <:+ w∧(v.nx s c=none ∨ v.nx s c=some q))→v'.nx s d=v.nx s d) (hnxh:∀ d,v'.nx (v.n+1) d=v'.nx q d)
  (hL:∀ s,s < v.n→L' s=L s) (hLn:L' v.n=w++[c]) (hLh:L' (v.n+1)=z):Inv (w++[c]) v' L' v.n:=by
 have cs:∀ s,s < v'.n→(s < v.n) ∨ s=v.n ∨ s=v.n+1:=fun s hs=>by omega
 have hnl:¬ LM w z:=fun k=>hne ((Top.self k).uniq hzq)
 have hq0:q ≠ 0:=fun e=>by
  have h1:=hzq.1
  rw [e,h.l0] at h1
  rw [e,h.l0] at hne
  exact hne (suffix_nil.1 h1)
 have hqs:¬ L q <:+ w++[c]:=fun k=>hne (suf_anti hzq.1 (hz.max _ k (h.lm q hq).1))
 have top1:∀ {x y},Top w x y→y ≠ L q→Top (w++[c]) x y:=fun {x y} ht hy=>ht.keep fun hx=>Classical.byContradiction fun hy'=>hy ((hz.top ht hx hy').2.uniq hzq)
 -- what is said of the old states and the new one
 have hnxv:∀ s d t,s < v.n→v'.nx s d=some t→t < v'.n∧Top (w++[c]) (L s++[d]) (L' t):=by
  intro s d t k ht
  rcases Classical.em (d=c∧L s <:+ w∧(v.nx s c=none ∨ v.nx s c=some q)) with hh | hh
  ·obtain ⟨rfl,h1,h2 | h2⟩:=hh
   ·rw [hS.nx1 s k h1 h2] at ht
    cases ht
    refine ⟨by omega,?_⟩
    rw [hLn]
    exact .all (suf_snoc.2 ⟨h1,rfl⟩) (h.nx0 s d k h2)
   ·rw [hnx2 s k h1 h2] at ht
    cases ht
    refine ⟨by omega,?_⟩
    rw [hLh]
    exact (hz.top (h.nx s d q k h2).2 (suf_snoc.2 ⟨h1,rfl⟩) hqs).1
  ·rw [hnx s d k hh] at ht
   obtain ⟨h1,h2⟩:=h.nx s d t k ht
   refine ⟨by omega,?_⟩
   rw [hL t h1]
   rcases Classical.em (L t=L q) with e | e
   ·obtain rfl:=h.inj t q h1 hq e
    refine h2.keep fun hx=>?_
    obtain ⟨h3,rfl⟩:=suf_snoc.1 hx
    exact absurd ⟨rfl,h3,.inr ht⟩ hh
   ·exact top1 h2 e
 have hnx0:∀ s d,s < v.n→v'.nx s d=none→¬ Fc (w++[c]) (L s++[d]):=by
  intro s d k ht hf
  rcases Classical.em (d=c∧L s <:+ w∧(v.nx s c=none ∨ v.nx s c=some q)) with hh | hh
  ·obtain ⟨rfl,h1,h2 | h2⟩:=hh
   ·rw [hS.nx1 s k h1 h2] at ht; cases ht
   ·rw [hnx2 s k h1 h2] at ht; cases ht
  ·rw [hnx s d k hh] at ht
   rcases hf.cases with h1 | h1
   ·exact h.nx0 s d k ht h1
   ·obtain ⟨h2,rfl⟩:=suf_snoc.1 h1
    exact hh ⟨rfl,h2,.inl ht⟩
 -- the link of what q was
 obtain ⟨t,e1,e2,e3,e4,e5,e6⟩:=h.lk q hq hq0
 have below:∀ {y},LM w y→y <:+ L q→y ≠ L q→y <:+ z:=fun {y} hy hyq hyn=>by
  rcases suf_cmp hyq hzq.1 with k | k
  ·exact k
  ·exact absurd (hy.max hyq fun j hj=>hzq.2.1 j (hj.suf k)) hyn
 refine ⟨by omega,by rw [hL 0 h.pos]; exact h.l0,?_,?_,?_,?_,?_,by rw [hlk 0 h.pos hq0.symm]; exact h.lk0,?_,?_,?_,by omega,hLn⟩
 ·intro s hs
  rcases cs s hs with k | rfl | rfl
  ·rw [hL s k]; exact (h.lm s k).up
  ·rw [hLn]; exact .all
  ·rw [hLh]; exact hz.lm
 ·intro s t hs ht e
  rcases cs s hs with k | rfl | rfl <;> rcases cs t ht with k' | rfl | rfl
  ·rw [hL s k,hL t k'] at e; exact h.inj s t k k' e
  ·rw [hL s k,hLn] at e; exact absurd (e ▸ (h.lm s k).1) not_fc
  ·rw [hL s k,hLh] at e; exact absurd (e ▸ h.lm s k) hnl
  ·rw [hL t k',hLn] at e; exact absurd (e ▸ (h.lm t k').1) not_fc
  ·rfl
  ·rw [hLn,hLh] at e; exact absurd e.symm hz.ne
  ·rw [hL t k',hLh] at e; exact absurd (e ▸ h.lm t k') hnl
  ·rw [hLn,hLh] at e; exact absurd e hz.ne
  ·rfl
 ·intro x hx
  rcases hz.lms hx with k | rfl | rfl
  ·obtain ⟨s,h1,h2⟩:=h.cov x k; exact ⟨s,by omega,by rw [hL s h1]; exact h2⟩
  ·exact ⟨v.n,by omega,hLn⟩
  ·exact ⟨v.n+1,by omega,hLh⟩
 ·intro s hs
  rcases cs s hs with k | rfl | rfl
  ·rw [hL s k,hS.lg s k]; exact h.lg s k
  ·rw [hLn,hS.lgn]; simp
  ·rw [hLh,hlg]
 ·intro s hs
  rcases cs s hs with k | rfl | rfl
  ·rw [hL s k,hS.fi s k]; exact (h.fi s k).up
  ·rw [hLn,hS.fin]; exact .all
  ·rw [hLh,hfi]
   have:=h.fi q hq
   exact Fi.up ⟨this.1.suf hzq.1,fun i hi=>this.2 i (hzq.2.1 i hi)⟩
 ·intro s hs h0
  rcases cs s hs with k | rfl | rfl
  ·rcases Classical.em (s=q) with rfl | hsq
   ·refine ⟨v.n+1,hlq,by omega,?_⟩
    rw [hL s k,hLh]
    refine ⟨hzq.1,hne,hz.lm,fun y hy hyq hyn=>?_⟩
    rcases hz.lms hy with k' | rfl | rfl
    ·exact below k' hyq hyn
    ·exact absurd ((h.lm s k).1.suf hyq) not_fc
    ·exact suffix_refl _
   ·obtain ⟨t,f1,f2,f3,f4,f5,f6⟩:=h.lk s k h0
    refine ⟨t,by rw [hlk s k hsq]; exact f1,by omega,?_⟩
    rw [hL s k,hL t f2]
    refine ⟨f3,f4,f5.up,fun y hy hyq hyn=>?_⟩
    rcases hz.lms hy with k' | rfl | rfl
    ·exact f6 y k' hyq hyn
    ·exact absurd ((h.lm s k).1.suf hyq) not_fc
    ·rcases suf_cmp hyq f3 with g | g
     ·exact g
     refine absurd ?_ hsq
     refine h.inj s q k hq ?_
     obtain ⟨j0,hj0⟩:=(h.lm s k).1
     have hjq:=hzq.2.1 j0 (hj0.suf hyq)
     rcases suf_cmp hj0.2 hjq.2 with g' | g'
     ·exact (h.lm s k).max g' fun j hj=>hzq.2.1 j (hj.suf hyq)
     ·refine Classical.byContradiction fun hn'=>?_
      have g2:=f6 _ (h.lm q hq) g' fun e=>hn' e.symm
      exact hne (suf_anti hzq.1 (g2.trans g))
  ·refine ⟨v.n+1,hln,by omega,?_⟩
   rw [hLn,hLh]
   refine ⟨hz.suf,hz.ne,hz.lm,fun y hy hyq hyn=>?_⟩
   rcases hz.lms hy with k' | rfl | rfl
   ·exact hz.max y hyq k'.1
   ·exact absurd rfl hyn
   ·exact suffix_refl _
  ·refine ⟨t,by rw [hlh]; exact e1,by omega,?_⟩
   rw [hLh,hL t e2]
   refine ⟨below e5 e3 e4,fun e=>hnl (e ▸ e5),e5.up,fun y hy hyq hyn=>?_⟩
   rcases hz.lms hy with k' | rfl | rfl
   ·exact e6 y k' (hyq.trans hzq.1) fun e=>hnl (suf_anti hyq (e ▸ hzq.1) ▸ k')
   ·exact absurd (suf_anti hyq hz.suf) hyn
   ·exact absurd rfl hyn
 ·intro s d t hs ht
  rcases cs s hs with k | rfl | rfl
  ·rw [hL s k]; exact hnxv s d t k ht
  ·rw [hS.nxn d] at ht; cases ht
  ·rw [hLh]
   rw [hnxh] at ht
   obtain ⟨h1,h2⟩:=hnxv q d t hq ht
   exact ⟨h1,(Top.same hzq.1 hzq.2.1).2 h2⟩
 ·intro s d hs ht hf
  rcases cs s hs with k | rfl | rfl
  ·rw [hL s k] at hf; exact hnx0 s d k ht hf
  ·rw [hLn] at hf; exact not_fc' hf
  ·rw [hLh] at hf
   rw [hnxh] at ht
   obtain ⟨y,hy⟩:=Top.ex _ (Nat.le_refl _) hf
   exact hnx0 q d hq ht ((Top.same hzq.1 hzq.2.1).1 hy).fc

theorem Inv.open_ (h:Inv w v L last):∀ (m:Nat) {x:B},w.length - x.length≤m→x <:+ w→Fc w (x++[c])→∃ s,s < v.n∧L s <:+ w∧x <:+ L s∧Fc w (L s++[c])
 | m,x,hm,hx,hf=>by
  rcases Classical.em (∃ a,a::x <:+ w∧Fc w (a::x++[c])) with ⟨a,h1,h2⟩ | hn
  ·have:=h1.length_le
   simp at this
   cases m with
   | zero=>omega
   | succ m =>
    obtain ⟨s,k1,k2,k3,k4⟩:=h.open_ m (x:=a::x) (by simp; omega) h1 h2
    exact ⟨s,k1,k2,suf_cons k3,k4⟩
  ·have hl:LM w x:=by
    refine ⟨hf.suf' ,fun a=>?_⟩
    rcases Classical.em (a::x <:+ w) with k | k
    ·obtain ⟨j,hj⟩:=hf
     cases j with
     | zero=>exact absurd hj not_zero
     | succ j =>
      obtain ⟨h1,h2⟩:=En.snoc.1 hj
      exact ⟨j,h1,fun h3=>hn ⟨a,k,j+1,En.snoc.2 ⟨h3,h2⟩⟩⟩
    ·exact ⟨w.length,⟨Nat.le_refl _,by simpa using hx⟩,fun h3=>k (by simpa using h3.2)⟩
   obtain ⟨s,h1,h2⟩:=h.cov x hl
   exact ⟨s,h1,h2 ▸ hx,h2 ▸ suffix_refl _,h2 ▸ hf⟩
theorem Inv.zz (h:Inv w v L last) {p:Nat} (hp:p < v.n) (hpw:L p <:+ w) (hpq:v.nx p c=some q) (hmax:∀ s,s < v.n→L s <:+ w→(L p).length < (L s).length→v.nx s c=none):Zz w c (L p++[c]):=by
 refine ⟨suf_snoc.2 ⟨hpw,rfl⟩,(h.nx p c q hp hpq).2.fc,fun x hx hf=>?_⟩
 rcases eq_nil_or_concat x with rfl | ⟨x,d,rfl⟩
 ·exact nil_suffix
 ·rw [concat_eq_append] at hx hf ⊢
  obtain ⟨h1,rfl⟩:=suf_snoc.1 hx
  obtain ⟨s,k1,k2,k3,k4⟩:=h.open_ (c:=d) _ (Nat.le_refl _) h1 hf
  have hle:(L s).length≤(L p).length:=by
   refine Nat.le_of_not_lt fun hlt=>?_
   exact h.nx0 s d k1 (hmax s k1 k2 hlt) k4
  exact suf_snoc.2 ⟨k3.trans (suffix_of_suffix_length_le k2 hpw hle),rfl⟩
theorem Inv.zz0 (h:Inv w v L last) (hmax:∀ s,s < v.n→L s <:+ w→v.nx s c=none):Zz w c (L 0):=by
 rw [h.l0]
 refine ⟨nil_suffix,(LM.nil w).1,fun x hx hf=>?_⟩
 rcases eq_nil_or_concat x with rfl | ⟨x,d,rfl⟩
 ·exact nil_suffix
 ·rw [concat_eq_append] at hx hf ⊢
  obtain ⟨h1,rfl⟩:=suf_snoc.1 hx
  obtain ⟨s,k1,k2,k3,k4⟩:=h.open_ (c:=d) _ (Nat.le_refl _) h1 hf
  exact absurd k4 (h.nx0 s d k1 (hmax s k1 k2))
end
end Go.Sfa
namespace Go.Sfa
structure Ps where
 lg:Nat
 fi:Nat
 lk:Option Nat
 ed:List (UInt8 × Nat)
abbrev Ed:=List (UInt8 × Nat)
def nxE (l:Ed) (c:UInt8):Option Nat:=(l.find? fun p=>decide (p.1=c)).map (·.2)
def setE:Ed→UInt8→Nat→Ed
 | [],c,t=>[(c,t)]
 | p::l,c,t=>if p.1=c then (c,t)::l else p::setE l c t
theorem nxE_cons (p:UInt8 × Nat) (l:Ed) (c:UInt8):nxE (p::l) c=if p.1=c then some p.2 else nxE l c:=by
 unfold nxE
 by_cases h:p.1=c
 ·rw [List.find?_cons_of_pos (by simpa using h),if_pos h]; rfl
 ·rw [List.find?_cons_of_neg (by simpa using h),if_neg h]
theorem nxE_set:∀ (l:Ed) (c:UInt8) (t:Nat) (d:UInt8),nxE (setE l c t) d=if c=d then some t else nxE l d
 | [],c,t,d=>by simp only [setE,nxE_cons]
 | p::l,c,t,d=>by
  simp only [setE]
  by_cases h:p.1=c
  ·rw [if_pos h,nxE_cons,nxE_cons]
   simp only
   by_cases e:c=d
   ·rw [if_pos e,if_pos e]
   ·rw [if_neg e,if_neg e,if_neg (fun k=>e (h ▸ k))]
  ·rw [if_neg h,nxE_cons,nxE_cons,nxE_set l c t d]
   by_cases e:p.1=d
   ·rw [if_pos e,if_neg (fun k=>h (e.trans k.symm)),if_pos e]
   ·rw [if_neg e,if_neg e]
theorem setE_len:∀ (l:Ed) (c:UInt8) (t:Nat),(setE l c t).length≤l.length+1
 | [],c,t=>by simp [setE]
 | p::l,c,t=>by
  simp only [setE]
  split
  ·simp
  ·have:=setE_len l c t; simp; omega
def st (ps:List Ps) (s:Nat):Ps:=ps.getD s ⟨0,0,none,[]⟩
def vw (ps:List Ps):Vw:=⟨ps.length,fun s=>(st ps s).lg,fun s=>(st ps s).fi,fun s=>(st ps s).lk,fun s c=>nxE (st ps s).ed c⟩
theorem st_set (ps:List Ps) {i:Nat} (x:Ps) (h:i < ps.length) (s:Nat):st (ps.set i x) s=if s=i then x else st ps s:=by
 unfold st
 rw [List.getD_eq_getElem?_getD,List.getElem?_set,List.getD_eq_getElem?_getD]
 by_cases e:s=i
 ·subst e; simp [h]
 ·rw [if_neg (Ne.symm e),if_neg e]
theorem st_app (ps:List Ps) (x:Ps) (s:Nat):st (ps++[x]) s=if s=ps.length then x else st ps s:=by
 unfold st
 rw [List.getD_eq_getElem?_getD,List.getElem?_append,List.getD_eq_getElem?_getD]
 by_cases h:s < ps.length
 ·rw [if_pos h,if_neg (by omega)]
 ·rw [if_neg h]
  by_cases e:s=ps.length
  ·subst e; simp
  ·rw [if_neg e,List.getElem?_eq_none (by simp; omega),List.getElem?_eq_none (by omega)]
end Go.Sfa
namespace Go.Sfa
open List
section
variable {w:B} {c:UInt8} {ps0 ps:List Ps} {L:Nat→B} {last:Nat}
def Above (L:Nat→B) (po:Option Nat) (s:Nat):Prop:=∀ p,po=some p→(L p).length < (L s).length
structure W1 (w:B) (c:UInt8) (ps0:List Ps) (L:Nat→B) (nw:Ps) (po:Option Nat) (ps:List Ps):Prop where
 len:ps.length=ps0.length+1
 new:st ps ps0.length=nw
 lg:∀ s,s < ps0.length→(st ps s).lg=(st ps0 s).lg
 fi:∀ s,s < ps0.length→(st ps s).fi=(st ps0 s).fi
 lk:∀ s,s < ps0.length→(st ps s).lk=(st ps0 s).lk
 at_:∀ p,po=some p→p < ps0.length∧L p <:+ w
 up:∀ s,s < ps0.length→L s <:+ w→Above L po s→nxE (st ps0 s).ed c=none∧nxE (st ps s).ed c=some ps0.length
 nx:∀ s d,s < ps0.length→¬ (d=c∧L s <:+ w∧Above L po s)→nxE (st ps s).ed d=nxE (st ps0 s).ed d
theorem W1.start (h:Inv w (vw ps0) L last) (nw:Ps):W1 w c ps0 L nw (some last) (ps0++[nw]):=by
 have hl:last < ps0.length:=h.last.1
 have hs:∀ s,s < ps0.length→st (ps0++[nw]) s=st ps0 s:=fun s hs=>by rw [st_app,if_neg (by omega)]
 refine ⟨by simp,by rw [st_app,if_pos rfl],fun s k=>by rw [hs s k],fun s k=>by rw [hs s k],fun s k=>by rw [hs s k],fun p e=>?_,fun s k k2 k3=>?_,fun s d k _=>by rw [hs s k]⟩
 ·cases e
  exact ⟨hl,by rw [h.last.2]; exact suffix_refl _⟩
 ·exfalso
  have:=k3 last rfl
  rw [h.last.2] at this
  have:=k2.length_le
  omega
theorem chain_next (h:Inv w (vw ps0) L last) {p:Nat} (hp:p < ps0.length) (hw:L p <:+ w):(∀ q,(st ps0 p).lk=some q→q < ps0.length∧L q <:+ w∧(L q).length < (L p).length) ∧
  (∀ s,s < ps0.length→L s <:+ w→(L s).length < (L p).length→∃ q,(st ps0 p).lk=some q∧(L s).length≤(L q).length):=by
 by_cases h0:p=0
 ·subst h0
  refine ⟨fun q e=>?_,fun s _ _ k=>?_⟩
  ·rw [show (st ps0 0).lk=none from h.lk0] at e; cases e
  ·rw [h.l0] at k; simp at k
 ·obtain ⟨t,e,ht,k1,k2,k3,k4⟩:=h.lk p hp h0
  have e':(st ps0 p).lk=some t:=e
  have hlt:(L t).length < (L p).length:=by
   have:=k1.length_le
   rcases Nat.lt_or_ge (L t).length (L p).length with h' | h'
   ·exact h'
   ·exact absurd (k1.eq_of_length (by omega)) k2
  refine ⟨fun q eq=>?_,fun s hs hsw hl=>⟨t,e',?_⟩⟩
  ·rw [e'] at eq; cases eq
   exact ⟨ht,k1.trans hw,hlt⟩
  ·have hsp:L s <:+ L p:=suffix_of_suffix_length_le hsw hw (by omega)
   exact (k4 (L s) (h.lm s hs) hsp (fun e=>by rw [e] at hl; omega)).length_le
theorem W1.next (h:Inv w (vw ps0) L last) {nw:Ps} {p:Nat} (k:W1 w c ps0 L nw (some p) ps) (hn:nxE (st ps p).ed c=none) :
  W1 w c ps0 L nw (st ps p).lk (ps.set p { st ps p with ed:=setE (st ps p).ed c ps0.length }):=by
 obtain ⟨hp,hw⟩:=k.at_ p rfl
 obtain ⟨c1,c2⟩:=chain_next h hp hw
 have hpl:p < ps.length:=by rw [k.len]; omega
 have hst:∀ s,st (ps.set p { st ps p with ed:=setE (st ps p).ed c ps0.length }) s=if s=p then { st ps p with ed:=setE (st ps p).ed c ps0.length } else st ps s:=fun s=>st_set ps _ hpl s
 have hlk:(st ps p).lk=(st ps0 p).lk:=k.lk p hp
 have hab:∀ s,s < ps0.length→L s <:+ w→(Above L (st ps p).lk s ↔ Above L (some p) s ∨ s=p):=by
  intro s hs hsw
  rw [hlk]
  constructor
  ·intro ha
   rcases Nat.lt_trichotomy (L s).length (L p).length with h' | h' | h'
   ·obtain ⟨q,e,hq⟩:=c2 s hs hsw h'
    have:=ha q e; omega
   ·right
    exact h.inj s p hs hp ((suffix_of_suffix_length_le hsw hw (by omega)).eq_of_length h')
   ·left; intro p' e; cases e; exact h'
  ·rintro (ha | rfl) q e
   ·have:=ha p rfl; have:=(c1 q e).2.2; omega
   ·exact (c1 q e).2.2
 refine ⟨by simp [k.len],by rw [hst,if_neg (by omega)]; exact k.new,fun s hs=>?_,fun s hs=>?_,fun s hs=>?_,fun q e=>?_,fun s hs hsw ha=>?_,fun s d hs hno=>?_⟩
 ·rw [hst]; split
  ·rename_i e; subst e; exact k.lg s hs
  ·exact k.lg s hs
 ·rw [hst]; split
  ·rename_i e; subst e; exact k.fi s hs
  ·exact k.fi s hs
 ·rw [hst]; split
  ·rename_i e; subst e; exact k.lk s hs
  ·exact k.lk s hs
 ·rw [hlk] at e
  exact ⟨(c1 q e).1,(c1 q e).2.1⟩
 ·rw [hst]
  by_cases e:s=p
  ·subst e
   rw [if_pos rfl]
   refine ⟨?_,by rw [nxE_set,if_pos rfl]⟩
   rw [← k.nx s c hs (fun ⟨_,_,a⟩=>by have:=a s rfl; omega)]; exact hn
  ·rw [if_neg e]
   exact k.up s hs hsw (((hab s hs hsw).1 ha).resolve_right e)
 ·rw [hst]
  by_cases e:s=p
  ·subst e
   rw [if_pos rfl,nxE_set]
   have hdc:c ≠ d:=fun e=>hno ⟨e.symm,hw,(hab s hs hw).2 (.inr rfl)⟩
   rw [if_neg hdc]
   exact k.nx s d hs fun ⟨a,_,_⟩=>hdc a.symm
  ·rw [if_neg e]
   exact k.nx s d hs fun ⟨a,b,a3⟩=>hno ⟨a,b,(hab s hs b).2 (.inl a3)⟩
def nwS (w:B) (q:Nat):Ps:=⟨w.length+1,w.length+1,some q,[]⟩
def Lx (L:Nat→B) (n:Nat) (x:B) (s:Nat):B:=if s=n then x else L s
theorem W1.below (h:Inv w (vw ps0) L last) {nw:Ps} {p q:Nat} (k:W1 w c ps0 L nw (some p) ps) (hq:nxE (st ps p).ed c=some q):nxE (st ps0 p).ed c=some q∧∀ s,s < ps0.length→L s <:+ w→nxE (st ps0 s).ed c=none→Above L (some p) s:=by
 obtain ⟨hp,hw⟩:=k.at_ p rfl
 have e0:nxE (st ps0 p).ed c=some q:=by
  rw [← k.nx p c hp (fun ⟨_,_,a⟩=>by have:=a p rfl; omega)]; exact hq
 refine ⟨e0,fun s hs hsw hn p' e=>?_⟩
 cases e
 apply Nat.lt_of_not_le
 intro hle
 have hf:=(h.nx p c q hp e0).2.fc
 have hsp:L s <:+ L p:=suffix_of_suffix_length_le hsw hw hle
 exact h.nx0 s c hs hn (hf.suf (suf_snoc.2 ⟨hsp,rfl⟩))
theorem W1.endNone (h:Inv w (vw ps0) L last) (k:W1 w c ps0 L (nwS w 0) none ps):Inv (w++[c]) (vw ps) (Lx L ps0.length (w++[c])) ps0.length:=by
 have ab:∀ s,Above L none s:=fun s p e=>by cases e
 have hz:=h.zz0 (c:=c) fun s hs hsw=>(k.up s hs hsw (ab s)).1
 have hnew:=k.new
 refine h.stepA hz h.pos ⟨by show ps0.length < ps.length; rw [k.len]; omega,k.lg,?_,k.fi,?_,?_,fun s hs hsw _=>(k.up s hs hsw (ab s)).2⟩ k.len k.lk ?_ (fun s d hs hno=>k.nx s d hs fun ⟨a,b,_⟩=>hno ⟨a,b,by subst a; exact (k.up s hs b (ab s)).1⟩) (fun s hs=>if_neg (by have:s < ps0.length:=hs; omega)) (if_pos rfl)
 ·show (st ps ps0.length).lg=_; rw [hnew]; rfl
 ·show (st ps ps0.length).fi=_; rw [hnew]; rfl
 ·intro d; show nxE (st ps ps0.length).ed d=none; rw [hnew]; rfl
 ·show (st ps ps0.length).lk=_; rw [hnew]; rfl
theorem W1.endA (h:Inv w (vw ps0) L last) {p q:Nat} (k:W1 w c ps0 L (nwS w 0) (some p) ps) (hq:nxE (st ps p).ed c=some q) (hlg:(st ps q).lg=(st ps p).lg+1) (hqn:q < ps0.length) :
  Inv (w++[c]) (vw (ps.set ps0.length (nwS w q))) (Lx L ps0.length (w++[c])) ps0.length:=by
 obtain ⟨hp,hw⟩:=k.at_ p rfl
 obtain ⟨e0,bl⟩:=k.below h hq
 have hz0:=h.zz (c:=c) hp hw e0 fun s hs hsw hl=>(k.up s hs hsw fun p' e=>by cases e; exact hl).1
 have htop:=(h.nx p c q hp e0).2
 have hLq:L p++[c]=L q:=by
  refine htop.1.eq_of_length ?_
  have e1:=h.lg q hqn
  have e2:=h.lg p hp
  have e3:(vw ps0).lg q=(st ps q).lg:=(k.lg q hqn).symm
  have e4:(vw ps0).lg p=(st ps p).lg:=(k.lg p hp).symm
  simp; omega
 rw [hLq] at hz0
 have hl:ps0.length < ps.length:=by rw [k.len]; omega
 have hst:∀ s,st (ps.set ps0.length (nwS w q)) s=if s=ps0.length then nwS w q else st ps s:=fun s=>st_set ps _ hl s
 have hso:∀ s,s < ps0.length→st (ps.set ps0.length (nwS w q)) s=st ps s:=fun s hs=>by rw [hst,if_neg (by omega)]
 have hsn:st (ps.set ps0.length (nwS w q)) ps0.length=nwS w q:=by rw [hst,if_pos rfl]
 refine h.stepA hz0 hqn ⟨by show ps0.length < (ps.set _ _).length; simp; omega,fun s hs=>?_,?_,fun s hs=>?_,?_,?_,fun s hs hsw hn=>?_⟩ (by show (ps.set _ _).length=_; simp [k.len]; rfl) (fun s hs=>?_) ?_ (fun s d hs hno=>?_) (fun s hs=>if_neg (by have:s < ps0.length:=hs; omega)) (if_pos rfl)
 ·show (st _ s).lg=_; rw [hso s hs]; exact k.lg s hs
 ·show (st _ ps0.length).lg=_; rw [hsn]; rfl
 ·show (st _ s).fi=_; rw [hso s hs]; exact k.fi s hs
 ·show (st _ ps0.length).fi=_; rw [hsn]; rfl
 ·intro d; show nxE (st _ ps0.length).ed d=none; rw [hsn]; rfl
 ·show nxE (st _ s).ed c=some ps0.length
  rw [hso s hs]; exact (k.up s hs hsw (bl s hs hsw hn)).2
 ·show (st _ s).lk=_; rw [hso s hs]; exact k.lk s hs
 ·show (st _ ps0.length).lk=_; rw [hsn]; rfl
 ·show nxE (st _ s).ed d=_
  rw [hso s hs]
  exact k.nx s d hs fun ⟨a,b,a3⟩=>hno ⟨a,b,by subst a; exact (k.up s hs b a3).1⟩
structure W2 (w:B) (c:UInt8) (ps0 ps1:List Ps) (L:Nat→B) (p q:Nat) (cl:Ps) (po:Option Nat) (ps:List Ps):Prop where
 len:ps.length=ps0.length+2
 new:st ps ps0.length=st ps1 ps0.length
 cl_:st ps (ps0.length+1)=cl
 lg:∀ s,s < ps0.length→(st ps s).lg=(st ps0 s).lg
 fi:∀ s,s < ps0.length→(st ps s).fi=(st ps0 s).fi
 lk:∀ s,s < ps0.length→(st ps s).lk=(st ps0 s).lk
 at_:∀ p',po=some p'→p' < ps0.length∧L p' <:+ w∧(L p').length≤(L p).length
 dn:∀ s,s < ps0.length→L s <:+ w→(L s).length≤(L p).length→Above L po s→nxE (st ps0 s).ed c=some q∧nxE (st ps s).ed c=some (ps0.length+1)
 nx:∀ s d,s < ps0.length→¬ (d=c∧L s <:+ w∧(L s).length≤(L p).length∧Above L po s)→nxE (st ps s).ed d=nxE (st ps1 s).ed d
theorem W2.start {p q:Nat} {nw:Ps} (h:Inv w (vw ps0) L last) (k:W1 w c ps0 L nw (some p) ps) (cl:Ps):W2 w c ps0 ps L p q cl (some p) (ps++[cl]):=by
 obtain ⟨hp,hw⟩:=k.at_ p rfl
 have hs:∀ s,s < ps0.length+1→st (ps++[cl]) s=st ps s:=fun s hs=>by rw [st_app,if_neg (by rw [k.len]; omega)]
 refine ⟨by simp [k.len],hs _ (by omega),by rw [st_app,if_pos k.len.symm],fun s k2=>by rw [hs s (by omega)]; exact k.lg s k2,fun s k2=>by rw [hs s (by omega)]; exact k.fi s k2,fun s k2=>by rw [hs s (by omega)]; exact k.lk s k2,fun p' e=>?_,fun s _ _ h3 h4=>?_,fun s d k2 _=>by rw [hs s (by omega)]⟩
 ·cases e; exact ⟨hp,hw,Nat.le_refl _⟩
 ·have:=h4 p rfl; omega
theorem above_next (h:Inv w (vw ps0) L last) {p:Nat} (hp:p < ps0.length) (hw:L p <:+ w) {s:Nat} (hs:s < ps0.length) (hsw:L s <:+ w):Above L (st ps0 p).lk s ↔ Above L (some p) s ∨ s=p:=by
 obtain ⟨c1,c2⟩:=chain_next h hp hw
 constructor
 ·intro ha
  rcases Nat.lt_trichotomy (L s).length (L p).length with h' | h' | h'
  ·obtain ⟨q,e,hq⟩:=c2 s hs hsw h'
   have:=ha q e; omega
  ·right
   exact h.inj s p hs hp ((suffix_of_suffix_length_le hsw hw (by omega)).eq_of_length h')
  ·left; intro p' e; cases e; exact h'
 ·rintro (ha | rfl) q e
  ·have:=ha p rfl; have:=(c1 q e).2.2; omega
  ·exact (c1 q e).2.2
theorem W2.next {ps1:List Ps} {p q p':Nat} {nw cl:Ps} (h:Inv w (vw ps0) L last) (k1:W1 w c ps0 L nw (some p) ps1) (k:W2 w c ps0 ps1 L p q cl (some p') ps) (hn:nxE (st ps p').ed c=some q) :
  W2 w c ps0 ps1 L p q cl (st ps p').lk (ps.set p' { st ps p' with ed:=setE (st ps p').ed c (ps0.length+1) }):=by
 obtain ⟨hp,hw,hle⟩:=k.at_ p' rfl
 obtain ⟨c1,c2⟩:=chain_next h hp hw
 have hpl:p' < ps.length:=by rw [k.len]; omega
 have hst:∀ s,st (ps.set p' { st ps p' with ed:=setE (st ps p').ed c (ps0.length+1) }) s=if s=p' then { st ps p' with ed:=setE (st ps p').ed c (ps0.length+1) } else st ps s:=fun s=>st_set ps _ hpl s
 have hlk:(st ps p').lk=(st ps0 p').lk:=k.lk p' hp
 have hab:∀ s,s < ps0.length→L s <:+ w→(Above L (st ps p').lk s ↔ Above L (some p') s ∨ s=p'):=fun s hs hsw=>by rw [hlk]; exact above_next h hp hw hs hsw
 have hself:¬ Above L (some p') p':=fun a=>by have:=a p' rfl; omega
 refine ⟨by simp [k.len],by rw [hst,if_neg (by omega)]; exact k.new,by rw [hst,if_neg (by omega)]; exact k.cl_,fun s hs=>?_,fun s hs=>?_,fun s hs=>?_,fun r e=>?_,fun s hs hsw hl ha=>?_,fun s d hs hno=>?_⟩
 ·rw [hst]; split
  ·rename_i e; subst e; exact k.lg s hs
  ·exact k.lg s hs
 ·rw [hst]; split
  ·rename_i e; subst e; exact k.fi s hs
  ·exact k.fi s hs
 ·rw [hst]; split
  ·rename_i e; subst e; exact k.lk s hs
  ·exact k.lk s hs
 ·rw [hlk] at e
  have:=c1 r e
  exact ⟨this.1,this.2.1,by omega⟩
 ·rw [hst]
  by_cases e:s=p'
  ·subst e
   rw [if_pos rfl]
   refine ⟨?_,by rw [nxE_set,if_pos rfl]⟩
   rw [k.nx s c hs (fun ⟨_,_,_,a⟩=>hself a)] at hn
   rw [← k1.nx s c hs (fun ⟨_,_,a⟩=>by have:=a p rfl; omega)]; exact hn
  ·rw [if_neg e]
   exact k.dn s hs hsw hl (((hab s hs hsw).1 ha).resolve_right e)
 ·rw [hst]
  by_cases e:s=p'
  ·subst e
   rw [if_pos rfl,nxE_set]
   have hdc:c ≠ d:=fun e=>hno ⟨e.symm,hw,hle,(hab s hs hw).2 (.inr rfl)⟩
   rw [if_neg hdc]
   exact k.nx s d hs fun ⟨a,_,_,_⟩=>hdc a.symm
  ·rw [if_neg e]
   exact k.nx s d hs fun ⟨a,b,b2,a3⟩=>hno ⟨a,b,b2,(hab s hs b).2 (.inl a3)⟩
theorem W2.stop (h:Inv w (vw ps0) L last) {p q p' s:Nat} (hp:p < ps0.length) (hpw:L p <:+ w) (e0:nxE (st ps0 p).ed c=some q) (hp':p' < ps0.length) (hw':L p' <:+ w) (hle:(L p').length≤(L p).length) (hne:nxE (st ps0 p').ed c ≠ some q)
  (hs:s < ps0.length) (hsw:L s <:+ w) (hl:(L s).length≤(L p').length):nxE (st ps0 s).ed c ≠ some q:=by
 intro e
 obtain ⟨hq,ht⟩:=h.nx s c q hs e
 have ht0:=(h.nx p c q hp e0).2
 have h1:L s <:+ L p':=suffix_of_suffix_length_le hsw hw' hl
 have h2:L p' <:+ L p:=suffix_of_suffix_length_le hw' hpw hle
 have s1:L s++[c] <:+ L p'++[c]:=suf_snoc.2 ⟨h1,rfl⟩
 have s2:L p'++[c] <:+ L q:=(suf_snoc.2 ⟨h2,rfl⟩).trans ht0.1
 have htp:Top w (L p'++[c]) (L q):=⟨s2,fun j hj=>ht.2.1 j (hj.suf s1),ht.2.2⟩
 cases en:nxE (st ps0 p').ed c with
 | none=>exact h.nx0 p' c hp' en htp.fc
 | some r =>
  obtain ⟨hr,htr⟩:=h.nx p' c r hp' en
  have:=h.inj r q hr hq (htr.uniq htp)
  subst this
  exact hne en
def cln (ps1:List Ps) (p q:Nat):Ps:=⟨(st ps1 p).lg+1,(st ps1 q).fi,(st ps1 q).lk,(st ps1 q).ed⟩
def Lz (L:Nat→B) (n:Nat) (x z:B) (s:Nat):B:=if s=n then x else if s=n+1 then z else L s
def lnk (ps:List Ps) (s t:Nat):List Ps:=ps.set s { st ps s with lk:=some t }
theorem lnk_st (ps:List Ps) {s t:Nat} (hs:s < ps.length) (i:Nat):(st (lnk ps s t) i).lg=(st ps i).lg∧(st (lnk ps s t) i).fi=(st ps i).fi∧(st (lnk ps s t) i).ed=(st ps i).ed∧(st (lnk ps s t) i).lk=if i=s then some t else (st ps i).lk:=by
 unfold lnk
 rw [st_set ps _ hs]
 by_cases e:i=s
 ·subst e; simp
 ·simp [e]
theorem W2.endB {ps1:List Ps} {p q:Nat} {po:Option Nat} (h:Inv w (vw ps0) L last) (k1:W1 w c ps0 L (nwS w 0) (some p) ps1) (hq1:nxE (st ps1 p).ed c=some q) (hqn:q < ps0.length) (hlg:(st ps1 q).lg ≠ (st ps1 p).lg+1)
  (k:W2 w c ps0 ps1 L p q (cln ps1 p q) po ps) (hend:∀ p',po=some p'→nxE (st ps p').ed c ≠ some q) :
  Inv (w++[c]) (vw (lnk (lnk ps q (ps0.length+1)) ps0.length (ps0.length+1))) (Lz L ps0.length (w++[c]) (L p++[c])) ps0.length:=by
 obtain ⟨hp,hw⟩:=k1.at_ p rfl
 obtain ⟨e0,bl⟩:=k1.below h hq1
 have hz:=h.zz (c:=c) hp hw e0 fun s hs hsw hl=>(k1.up s hs hsw fun p' e=>by cases e; exact hl).1
 have htop:=(h.nx p c q hp e0).2
 have hlgp:(st ps1 p).lg=(L p).length:=(k1.lg p hp).trans (h.lg p hp)
 have hlgq:(st ps1 q).lg=(L q).length:=(k1.lg q hqn).trans (h.lg q hqn)
 have hzl:(L p++[c]).length=(L p).length+1:=by simp
 have hne:L p++[c] ≠ L q:=fun e=>hlg (by rw [hlgp,hlgq,← e,hzl])
 have hql:(L p).length < (L q).length:=by have:=htop.1.length_le; omega
 have hl0:ps0.length < ps.length:=by rw [k.len]; omega
 have hlq:q < ps.length:=by omega
 have hll:(lnk ps q (ps0.length+1)).length=ps.length:=by simp [lnk]
 have F:∀ i,(st (lnk (lnk ps q (ps0.length+1)) ps0.length (ps0.length+1)) i).lg=(st ps i).lg∧(st (lnk (lnk ps q (ps0.length+1)) ps0.length (ps0.length+1)) i).fi=(st ps i).fi∧(st (lnk (lnk ps q (ps0.length+1)) ps0.length (ps0.length+1)) i).ed=(st ps i).ed∧(st (lnk (lnk ps q (ps0.length+1)) ps0.length (ps0.length+1)) i).lk=if i=ps0.length then some (ps0.length+1) else if i=q then some (ps0.length+1) else (st ps i).lk:=by
  intro i
  obtain ⟨a1,a2,a3,a4⟩:=lnk_st (lnk ps q (ps0.length+1)) (s:=ps0.length) (t:=ps0.length+1) (by omega) i
  obtain ⟨b1,b2,b3,b4⟩:=lnk_st ps (s:=q) (t:=ps0.length+1) hlq i
  exact ⟨a1.trans b1,a2.trans b2,a3.trans b3,by rw [a4,b4]⟩
 have hnew:st ps ps0.length=nwS w 0:=k.new.trans k1.new
 have notlow:∀ {s},s < ps0.length→Above L (some p) s→¬ (L s).length≤(L p).length:=fun _ a=>by have:=a p rfl; omega
 refine h.stepB hz hqn htop hne ⟨?_,fun s hs=>(F s).1.trans (k.lg s hs),?_,fun s hs=>(F s).2.1.trans (k.fi s hs),?_,fun d=>?_,fun s hs hsw hn=>?_⟩ ?_ (fun s hs hsq=>?_) ?_ ?_ ?_ ?_ ?_ (fun s hs hsw hn=>?_) (fun s d hs hno=>?_) (fun d=>?_) (fun s hs=>?_) (if_pos rfl) ?_
 ·show ps0.length < (lnk _ _ _).length
  simp only [lnk,List.length_set]; omega
 ·exact (F ps0.length).1.trans (by rw [hnew]; rfl)
 ·exact (F ps0.length).2.1.trans (by rw [hnew]; rfl)
 ·show nxE (st _ ps0.length).ed d=none
  rw [(F ps0.length).2.2.1,hnew]; rfl
 ·show nxE (st _ s).ed c=some ps0.length
  rw [(F s).2.2.1,k.nx s c hs fun ⟨_,_,b,_⟩=>notlow hs (bl s hs hsw hn) b]
  exact (k1.up s hs hsw (bl s hs hsw hn)).2
 ·show (lnk _ _ _).length=_
  simp only [lnk,List.length_set]; exact k.len
 ·refine (F s).2.2.2.trans ?_
  have:s < ps0.length:=hs
  rw [if_neg (by omega),if_neg hsq]; exact k.lk s hs
 ·refine (F q).2.2.2.trans ?_
  rw [if_neg (by omega),if_pos rfl]; rfl
 ·refine (F ps0.length).2.2.2.trans ?_
  rw [if_pos rfl]; rfl
 ·refine (F (ps0.length+1)).2.2.2.trans ?_
  rw [if_neg (by omega),if_neg (by omega),k.cl_]; exact k1.lk q hqn
 ·refine (F (ps0.length+1)).1.trans ?_
  rw [k.cl_]; show (st ps1 p).lg+1=_; rw [hlgp,hzl]
 ·refine (F (ps0.length+1)).2.1.trans ?_
  rw [k.cl_]; exact k1.fi q hqn
 ·show nxE (st _ s).ed c=some (ps0.length+1)
  rw [(F s).2.2.1]
  have hn':nxE (st ps0 s).ed c=some q:=hn
  have hsl:(L s).length≤(L p).length:=by
   apply Nat.le_of_not_lt
   intro hlt
   rw [(k1.up s hs hsw fun p' e=>by cases e; exact hlt).1] at hn'
   cases hn'
  refine (k.dn s hs hsw hsl fun p' e=>?_).2
  apply Nat.lt_of_not_le
  intro hle
  obtain ⟨h1,h2,h3⟩:=k.at_ p' e
  have hx:=hend p' e
  rw [k.nx p' c h1 (fun ⟨_,_,_,a⟩=>by have:=a p' e; omega),k1.nx p' c h1 (fun ⟨_,_,a⟩=>notlow h1 a h3)] at hx
  exact W2.stop h hp hw e0 h1 h2 h3 hx hs hsw hle hn'
 ·show nxE (st _ s).ed d=_
  rw [(F s).2.2.1]
  have hd:¬ (d=c∧L s <:+ w∧(L s).length≤(L p).length∧Above L po s):=fun ⟨a,b,b2,b3⟩=>hno ⟨a,b,.inr (by subst a; exact (k.dn s hs b b2 b3).1)⟩
  rw [k.nx s d hs hd]
  exact k1.nx s d hs fun ⟨a,b,b2⟩=>hno ⟨a,b,.inl (by subst a; exact (k1.up s hs b b2).1)⟩
 ·show nxE (st _ (ps0.length+1)).ed d=nxE (st _ q).ed d
  rw [(F (ps0.length+1)).2.2.1,(F q).2.2.1,k.cl_]
  rw [k.nx q d hqn fun ⟨_,_,b,_⟩=>by omega]
  rfl
 ·have:s < ps0.length:=hs
  unfold Lz
  rw [if_neg (by omega),if_neg (by omega)]
 ·show Lz L ps0.length _ _ (ps0.length+1)=_
  unfold Lz
  rw [if_neg (by omega),if_pos rfl]
end
end Go.Sfa
namespace Go.Sfa
open List
section
variable {w x y z:B} {d:UInt8} {j:Nat}
theorem Top.goes (h:Top w x y):En w (x++[d]) j→En w (y++[d]) j:=fun hj=>by
 cases j with
 | zero=>exact absurd hj not_zero
 | succ j=>rw [En.snoc] at hj ⊢; exact ⟨h.2.1 j hj.1,hj.2⟩
theorem Top.go (h:Top w x y) (ht:Top w (y++[d]) z):Top w (x++[d]) z:=by
 have hxy:x++[d] <:+ y++[d]:=by obtain ⟨s,rfl⟩:=h.1; exact ⟨s,by simp⟩
 exact ⟨hxy.trans ht.1,fun j hj=>ht.2.1 j (h.goes hj),ht.2.2⟩
theorem Top.no (h:Top w x y) (hn:¬ Fc w (y++[d])):¬ Fc w (x++[d]):=fun ⟨j,hj⟩=>hn ⟨j,h.goes hj⟩
theorem Top.first (h:Top w x y) (hf:Fi w y j):Fi w x j:=⟨hf.1.suf h.1,fun i hi=>hf.2 i (h.2.1 i hi)⟩
end
def cpl:B→B→Nat
 | a::x,b::y=>if a=b then cpl x y+1 else 0
 | _,_=>0
theorem cpl_nil (y:B):cpl [] y=0:=by cases y <;> rfl
theorem cpl_iff:∀ (m:Nat) (x y:B),m≤cpl x y ↔ m≤x.length∧m≤y.length∧x.take m=y.take m
 | 0,x,y=>by simp
 | m+1,[],y=>by rw [cpl_nil]; simp
 | m+1,a::x,[]=>by simp [cpl]
 | m+1,a::x,b::y=>by
  simp only [cpl]
  by_cases h:a=b
  ·rw [if_pos h]
   have:=cpl_iff m x y
   simp only [Nat.add_le_add_iff_right,length_cons,take_succ_cons,h,cons.injEq,true_and]
   exact this
  ·rw [if_neg h]
   simp only [length_cons,take_succ_cons,cons.injEq]
   constructor
   ·intro k; omega
   ·intro k; exact absurd k.2.2.1 h
theorem En_cpl {a t:B} {m k:Nat} (hm:m≤t.length):En a (t.take m) (k+m) ↔ m≤cpl (a.drop k) t∧k+m≤a.length:=by
 rw [cpl_iff]
 unfold En
 constructor
 ·rintro ⟨h1,h2⟩
  refine ⟨⟨by simp; omega,hm,?_⟩,h1⟩
  have h3:(a.drop k).take m <:+ a.take (k+m):=by
   rw [take_drop]
   exact drop_suffix _ _
  have h4:(t.take m).length=((a.drop k).take m).length:=by simp; omega
  exact ((suffix_of_suffix_length_le h2 h3 (by omega)).eq_of_length h4).symm
 ·rintro ⟨⟨h1,_,h3⟩,h4⟩
  refine ⟨h4,?_⟩
  rw [← h3,take_drop]
  exact drop_suffix _ _
structure Bst (a t:B) (pl lo:Nat):Prop where
 le:∀ k,cpl (a.drop k) t≤lo
 zero:lo=0→pl=0
 hit:cpl (a.drop pl) t=lo
 fst:∀ k,k < pl→cpl (a.drop k) t < lo
theorem Bst.uniq {a t:B} {p l p' l':Nat} (h:Bst a t p l) (k:Bst a t p' l'):p=p'∧l=l':=by
 have hl:l=l':=by
  have h1:=h.le p'; have h2:=k.le p
  rw [k.hit] at h1; rw [h.hit] at h2; omega
 subst hl
 refine ⟨?_,rfl⟩
 rcases Nat.lt_trichotomy p p' with e | e | e
 ·have:=k.fst p e; rw [h.hit] at this; omega
 ·exact e
 ·have:=h.fst p' e; rw [k.hit] at this; omega
def scan (a t:B):Nat→Nat × Nat
 | 0=>(0,0)
 | k+1=>if (scan a t k).2 < cpl (a.drop k) t then (k,cpl (a.drop k) t) else scan a t k
theorem scan_ok (a t:B):∀ k,(∀ i,i < k→cpl (a.drop i) t≤(scan a t k).2)∧((scan a t k).2=0→(scan a t k).1=0)∧(0 < (scan a t k).2→(scan a t k).1 < k∧cpl (a.drop (scan a t k).1) t=(scan a t k).2)∧(∀ i,i < (scan a t k).1→cpl (a.drop i) t < (scan a t k).2)
 | 0=>⟨fun i hi=>absurd hi (by omega),fun _=>rfl,fun h=>absurd h (by simp [scan]),fun i hi=>absurd hi (by simp [scan])⟩
 | k+1=>by
  obtain ⟨h1,h2,h3,h4⟩:=scan_ok a t k
  simp only [scan]
  split
  ·rename_i hc
   refine ⟨fun i hi=>?_,fun h=>?_,fun h=>⟨by simp,rfl⟩,fun i hi=>?_⟩
   ·rcases Nat.lt_or_ge i k with e | e
    ·have:=h1 i e; simp only; omega
    ·obtain rfl:i=k:=by omega
     exact Nat.le_refl _
   ·simp only at h; omega
   ·have:=h1 i hi; simp only; omega
  ·rename_i hc
   refine ⟨fun i hi=>?_,h2,fun h=>⟨by have:=(h3 h).1; omega,(h3 h).2⟩,h4⟩
   rcases Nat.lt_or_ge i k with e | e
   ·exact h1 i e
   ·obtain rfl:i=k:=by omega
    omega
def bst (a t:B):Nat × Nat:=scan a t a.length
theorem bst_ok (a t:B):Bst a t (bst a t).1 (bst a t).2:=by
 obtain ⟨h1,h2,h3,h4⟩:=scan_ok a t a.length
 have hle:∀ k,cpl (a.drop k) t≤(scan a t a.length).2:=fun k=>by
  rcases Nat.lt_or_ge k a.length with e | e
  ·exact h1 k e
  ·rw [drop_eq_nil_of_le e,cpl_nil]; omega
 refine ⟨hle,h2,?_,h4⟩
 show cpl (a.drop (scan a t a.length).1) t=(scan a t a.length).2
 rcases Nat.eq_zero_or_pos (scan a t a.length).2 with e | e
 ·have:=hle (scan a t a.length).1; omega
 ·exact (h3 e).2
theorem bst_len (a t:B):(bst a t).2≤t.length∧(bst a t).1+(bst a t).2≤a.length:=by
 have h:=bst_ok a t
 have h1:=(cpl_iff (bst a t).2 (a.drop (bst a t).1) t).1 (by rw [h.hit]; exact Nat.le_refl _)
 refine ⟨h1.2.1,?_⟩
 have:=h1.1
 simp at this
 rcases Nat.eq_zero_or_pos (bst a t).2 with e | e
 ·rw [h.zero e,e]; omega
 ·omega
theorem bst_cut (a t:B):(a.drop (bst a t).1).take (bst a t).2=t.take (bst a t).2:=by
 have h:=bst_ok a t
 exact ((cpl_iff (bst a t).2 (a.drop (bst a t).1) t).1 (by rw [h.hit]; exact Nat.le_refl _)).2.2
theorem bst_walk {a t:B} {m j:Nat} (hm:m≤t.length) (hf:Fi a (t.take m) j) (hn:m=t.length ∨ ¬ Fc a (t.take (m+1))):m≤j∧bst a t=(j - m,m):=by
 have hmj:m≤j:=by have:=hf.1.len; rw [length_take] at this; omega
 refine ⟨hmj,?_⟩
 have hb:Bst a t (j - m) m:=by
  have h0:=hf.1
  rw [show j=(j - m)+m by omega,En_cpl hm] at h0
  have hle:∀ k,cpl (a.drop k) t≤m:=fun k=>by
   refine Nat.le_of_not_lt fun hlt=>?_
   obtain ⟨c1,c2,c3⟩:=(cpl_iff (m+1) (a.drop k) t).1 hlt
   rcases hn with e | e
   ·omega
   ·refine e ⟨k+(m+1),(En_cpl c2).2 ⟨hlt,?_⟩⟩
    simp at c1; omega
  refine ⟨hle,fun e=>?_,by have:=hle (j - m); omega,fun k hk=>?_⟩
  ·subst e
   have:=hf.2 0 ⟨by omega,by simp⟩
   omega
  ·have hkl:=hle k
   refine Nat.lt_of_le_of_ne hkl fun e=>?_
   have h1:En a (t.take m) (k+m):=(En_cpl hm).2 ⟨by omega,by omega⟩
   have:=hf.2 _ h1
   omega
 have:=(bst_ok a t).uniq hb
 exact Prod.ext this.1 this.2
end Go.Sfa
namespace Go.Sfa
open List
def s00:Ps:=⟨0,0,none,[]⟩
theorem en_nil {x:B} {j:Nat} (h:En [] x j):j=0∧x=[]:=by
 have h1:=h.1
 have h2:=h.len
 simp at h1
 subst h1
 refine ⟨rfl,?_⟩
 exact length_eq_zero_iff.1 (by omega)
theorem Inv.init:Inv [] (vw [s00]) (fun _=>[]) 0:=by
 have one:∀ s,s < (vw [s00]).n→s=0:=fun s hs=>by
  have:s < 1:=hs
  omega
 refine ⟨Nat.one_pos,rfl,fun s _=>LM.nil _,fun s t hs ht _=>(one s hs).trans (one t ht).symm,fun x hx=>?_,fun s hs=>?_,fun s hs=>?_,rfl,fun s hs h0=>absurd (one s hs) h0,fun s d t hs e=>?_,fun s d hs _ hf=>?_,Nat.one_pos,rfl⟩
 ·obtain ⟨j,hj⟩:=hx.1
  exact ⟨0,Nat.one_pos,(en_nil hj).2.symm⟩
 ·obtain rfl:=one s hs; rfl
 ·obtain rfl:=one s hs; exact ⟨⟨Nat.le_refl _,by simp⟩,fun i _=>Nat.zero_le _⟩
 ·obtain rfl:=one s hs; cases e
 ·obtain ⟨j,hj⟩:=hf
  have:=(en_nil hj).2
  simp at this
theorem top0 {w:B} {v:Vw} {L:Nat→B} {last:Nat} (h:Inv w v L last):Top w [] (L 0):=by rw [h.l0]; exact .self (LM.nil w)
end Go.Sfa
