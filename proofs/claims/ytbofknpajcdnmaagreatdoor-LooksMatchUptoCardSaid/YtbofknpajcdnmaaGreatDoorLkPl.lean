/- Plain lemmas on the models: the law's model answers true. -/
import Derived.Test.YtbofknpajcdnmaaGreatDoorLkMd
set_option linter.unusedSimpArgs false
set_option linter.unusedVariables false
namespace Go.Md
open Go.Vc
section
variable {Z A S α:Type}
theorem zf(x:A)(k:A→Option Z):call (some x) k=k x:=rfl
theorem zad(g:Bool)(x d:A)(k:A→Option Z):callG g (some x) d k=k (bif g then x else d):=by cases g <;> rfl
theorem zj6(a:Option A)(d:A)(k:A→Option Z):callG true a d k=call a k:=rfl
theorem zmi(a:Option A)(d:A)(k:A→Option Z):callG false a d k=k d:=rfl
theorem zg{p:Prop}[Decidable p](h:p)(m:Option Z):chk p m=m:=if_pos h
theorem zaw(F:S→Option Z)(m:(S→Option Z)→Option Z):jp F m=m F:=rfl
theorem zeI{s:Str}{i:Nat}(h:i<s.length)(k:Int→Option Z):zgR s i k=k (s[i].toNat:Int):=by
 unfold zgR;simp[h]
theorem zd0{l:List α}{i:Nat}(h:i<l.length)(k:α→Option Z):idx l i k=k l[i]:=by
 unfold idx;simp[h]
theorem zc4{f:Nat→α→Unit→(Unit→Option Z)→(Unit→Option Z)→Option Z}{z:Z}(q:α→Bool)(hf:∀i x nx k,f i x () nx k=bif q x then nx ()else some z)(k:Unit→Option Z) :
  ∀(l:List α) (i:Nat),forL l i f () k=bif l.all q then k ()else some z
 |[],i=>rfl
 |x::l,i=>by
  unfold forL;rw[hf,zc4 q hf k l (i+1),List.all_cons]
  cases q x <;> rfl
theorem zhD{f:Nat→α→S→(S→Option Z)→(S→Option Z)→Option Z}{k:S→Option Z}(inv:Nat→List α→S→Prop)(R:Nat→List α→S→Option Z)
  (h0:∀i s,inv i [] s→k s=R i [] s) (h1:∀i x l s nx,inv i (x::l) s→(∀s',inv (i+1) l s'→nx s'=R (i+1) l s')→f i x s nx k=R i (x::l) s) :
  ∀(l:List α) (i:Nat) (s:S),inv i l s→forL l i f s k=R i l s
 |[],i,s,h=>h0 i s h
 |x::l,i,s,h=>h1 i x l s _ h fun s' hs=>zhD inv R h0 h1 l (i+1) s' hs
theorem zfc{f:S→(S→Option Z)→(S→Option Z)→Option Z}{k:S→Option Z}(inv:S→Prop)(mu:S→Nat)(R:S→Option Z)
  (h:∀s nx,inv s→(∀s',inv s'→mu s'<mu s→nx s'=R s')→f s nx k=R s):∀(N:Nat) (s:S),inv s→mu s<N→loopN N f s k=R s
 |0,s,_,hm=>by omega
 |N+1,s,hi,hm=>by
  unfold loopN
  exact h s _ hi fun s' hs' hlt=>zfc inv mu R h N s' hs' (by omega)
theorem zeX(b:Bool)(x y:Z):(bif b then some x else some y)=some (bif b then x else y):=by cases b <;> rfl
theorem zmR(c:Bool)(x y:Z):(bif c then x else y)=bif !c then y else x:=by cases c <;> rfl
theorem bif_t{c:Bool}(h:c=true)(x y:Z):(bif c then x else y)=x:=by rw[h];rfl
theorem zkO{c:Bool}(h:c=false)(x y:Z):(bif c then x else y)=y:=by rw[h];rfl
end
theorem zdq{n:Int}(h1:-9223372036854775808≤n)(h2:n≤9223372036854775807):IntKind.i64.wrap n=n:=wrap64 h1 h2
theorem wrapN(n:Nat)(h:n≤9223372036854775807):IntKind.i64.wrap (n:Int)=n:=wrap64 (by omega) (by omega)
theorem ze2(i:Nat)(h:i<9223372036854775807):IntKind.i64.wrap ((i:Int)+1)=((i+1:Nat):Int):=by rw[zdq (by omega) (by omega)];rfl
theorem wrapm1(i:Nat)(h0:0<i)(h:i<9223372036854775807):IntKind.i64.wrap ((i:Int)-1)=((i-1:Nat):Int):=by rw[zdq (by omega) (by omega)];omega
theorem zgC:1099511627776≤zib:=Nat.le_refl _
def zX(c:UInt8):Str→Str×Str×Bool
 |[]=>([],[],false)
 |b::s=>if b=c then([],s,true)else(b::(zX c s).1,(zX c s).2.1,(zX c s).2.2)
def zG(c:UInt8):Str→List Str
 |[]=>[[]]
 |b::s=>if b=c then []::zG c s else match zG c s with
  |[]=>[[b]]
  |h::t=>(b::h)::t
theorem zbj{c:UInt8}:∀{s:Str},c∉s→zX c s=(s,[],false)
 |[],_=>rfl
 |b::s,h=>by
  have hb:b≠c:=fun e=>h (by simp[e])
  have ht:=zbj (s:=s) (c:=c) (fun h'=>h (List.mem_cons_of_mem _ h'));simp only[zX,if_neg hb,ht]
theorem zaB{c:UInt8}:∀{s:Str},c∈s→(zX c s).2.2=true∧s=(zX c s).1++c::(zX c s).2.1∧c∉(zX c s).1
 |[],h=>by cases h
 |b::s,h=>by
  by_cases hb:b=c
  ·subst hb;simp[zX]
  ·have hm:c∈s:=by
    rcases List.mem_cons.1 h with rfl|h
    ·exact absurd rfl hb
    ·exact h
   obtain⟨h1,h2,h3⟩:=zaB hm;simp only[zX,if_neg hb];refine⟨h1,by rw[List.cons_append,←h2],?_⟩;intro h'
   rcases List.mem_cons.1 h' with rfl|h'
   ·exact hb rfl
   ·exact h3 h'
theorem zfO(c:UInt8)(s:Str):zG c s≠[]:=by
 cases s with
 |nil=>simp[zG]
 |cons b s =>
  simp only[zG];split
  ·simp
  ·split <;> simp
theorem zex{c:UInt8}:∀{s:Str},c∉s→zG c s=[s]
 |[],_=>rfl
 |b::s,h=>by
  have hb:b≠c:=fun e=>h (by simp[e])
  have ht:=zex (s:=s) (c:=c) (fun h'=>h (List.mem_cons_of_mem _ h'));simp only[zG,if_neg hb,ht]
theorem zij{c:UInt8}:∀{a b:Str},c∉a→zG c (a++c::b)=a::zG c b
 |[],b,_=>by simp[zG]
 |x::a,b,h=>by
  have hx:x≠c:=fun e=>h (by simp[e])
  have:=zij (a:=a) (b:=b) (c:=c) (fun h'=>h (List.mem_cons_of_mem _ h'));simp only[List.cons_append,zG,if_neg hx,this]
theorem zcq(c:UInt8)(s:Str):zG c s=if (zX c s).2.2=true then(zX c s).1::zG c (zX c s).2.1 else [s]:=by
 by_cases h:c∈s
 ·obtain⟨h1,h2,h3⟩:=zaB h
  rw[if_pos h1]
  conv=>lhs;rw[h2]
  exact zij h3
 ·rw[zbj h]
  simpa using zex h
theorem zcx(c:UInt8)(s:Str):(zX c s).1.length≤s.length∧(zX c s).2.1.length≤s.length∧((zX c s).2.2=true→(zX c s).1.length+(zX c s).2.1.length+1=s.length):=by
 by_cases h:c∈s
 ·obtain⟨h1,h2,h3⟩:=zaB h
  have:=congrArg List.length h2;simp only[List.length_append,List.length_cons]at this;exact⟨by omega,by omega,fun _=>by omega⟩
 ·rw[zbj h];simp
theorem zcp{c:UInt8}:∀{s:Str} {p:Str},p∈zG c s→p.length≤s.length
 |[],p,h=>by simp[zG]at h;simp[h]
 |b::s,p,h=>by
  simp only[zG]at h;split at h
  ·rcases List.mem_cons.1 h with rfl|h
   ·simp
   ·have:=zcp h;simp;omega
  ·split at h
   ·rename_i e;exact absurd e (zfO c s)
   ·rename_i a t e
    rcases List.mem_cons.1 h with rfl|h
    ·have:=zcp (s:=s) (p:=a) (c:=c) (by rw[e];simp)
     simp;omega
    ·have:=zcp (s:=s) (p:=p) (c:=c) (by rw[e];simp[h])
     simp;omega
theorem zmD(c:UInt8)(s:Str):(zG c s).length=s.count c+1:=by
 induction s with
 |nil=>rfl
 |cons b s ih =>
  simp only[zG];split
  ·rename_i e;subst e;simp[ih]
  ·rename_i e
   rw[List.count_cons_of_ne (by simpa using e)];split
   ·rename_i e';exact absurd e' (zfO c s)
   ·rename_i e';rw[e']at ih;simpa using ih
def ixb(s:Str)(c:UInt8):Int:=Lib.indexByte s c
theorem ixb_cut(c:UInt8):∀s:Str,ixb s c=if c∈s then((zX c s).1.length:Int)else -1
 |[]=>rfl
 |b::s=>by
  have ih:=ixb_cut c s;unfold ixb at *;unfold Lib.indexByte
  by_cases hb:b=c
  ·subst hb;simp[zX]
  ·rw[if_neg (by simpa using hb),ih]
   simp only[zX,if_neg hb,List.mem_cons,Ne.symm hb,false_or]
   by_cases h:c∈s
   ·rw[if_pos h,if_pos h]
    simp
   ·rw[if_neg h,if_neg h];rfl
theorem ixb_none{c:UInt8}{s:Str}(h:c∉s):ixb s c=-1:=by rw[ixb_cut,if_neg h]
theorem zk2{c:UInt8}{s:Str}(h:c∈s):ixb s c=((zX c s).1.length:Int):=by rw[ixb_cut,if_pos h]
theorem zj5{c:UInt8}{s:Str}(h:c∈s):s.take (zX c s).1.length=(zX c s).1∧s.drop ((zX c s).1.length+1)=(zX c s).2.1:=by
 obtain⟨h1,h2,h3⟩:=zaB h;generalize zX c s=q at h2⊢;subst h2;constructor
 ·exact List.take_left' rfl
 ·rw[←List.drop_drop,List.drop_left' rfl];rfl
theorem len1(c:UInt8):((([c]:Str).length:Nat):Int)=1:=rfl
theorem wrapc1(i:Nat)(c:UInt8)(h:i<9223372036854775807):IntKind.i64.wrap ((i:Int)+((([c]:Str).length:Nat):Int))=((i+1:Nat):Int):=ze2 i h
theorem zks(s:Str)(c:UInt8):zh5 s (c.toNat:Int)=ixb s c:=by
 unfold zh5 ixb
 congr 1
 simp
theorem slite_eq(s:Str)(c:UInt8):zac s [c]=some (ixb s c):=by
 unfold zac zR
 by_cases h:s=[c]
 ·subst h
  simp[ixb,Lib.indexByte]
 ·have:(decide (([c]:Str)=s))=false:=by simpa using fun e=>h e.symm
  simp only[this,len1,show decide ((1:Int)=0)=false from rfl,show decide ((1:Int)=1)=true from rfl,decide_true,Bool.or_false,cond_false,cond_true]
  show zgR [c] ((0:Nat):Int) _=_
  rw[zeI (by simp)];simp only[zf,List.getElem_cons_zero,zks]
theorem zjm(s:Str)(c:UInt8):za1 s [c]=some (ixb s c):=by
 unfold za1
 rw[slite_eq];rfl
theorem count_eq(s:Str)(c:UInt8):zdv s [c]=some ((s.count c:Nat):Int):=by
 unfold zdv;simp only[len1,show decide ((1:Int)=0)=false from rfl,show decide ((1:Int)=1)=true from rfl,decide_true,cond_false,cond_true]
 show zgR [c] ((0:Nat):Int) _=_
 rw[zeI (by simp)];unfold zgH;simp
theorem cut_eq(s:Str)(c:UInt8)(hs:s.length≤1099511627776):zbw s [c]=some (zX c s):=by
 unfold zbw zaU;rw[slite_eq];simp only[zf]
 by_cases h:c∈s
 ·obtain⟨h1,h2,h3⟩:=zaB h
  have hl:=(zcx c s).2.2 h1;obtain⟨t1,t2⟩:=zj5 h;rw[zk2 h,decide_eq_true (by omega),cond_true];rw[zg (by omega)];simp only[wrapc1 _ c (show(zX c s).1.length<9223372036854775807 by omega)];rw[zg (by omega)];simp only[Int.toNat_natCast,t1,t2,zf];rw[show true=(zX c s).2.2 from h1.symm]
 ·rw[ixb_none h]
  simp only[show decide ((0:Int)≤-1)=false from rfl,cond_false,zf];rw[zbj h]
theorem zh8{c:UInt8}{s:Str}(h:c∈s):(zX c s).2.1.count c+1=s.count c:=by
 obtain⟨h1,h2,h3⟩:=zaB h
 conv=>rhs;rw[h2]
 rw[List.count_append,List.count_eq_zero_of_not_mem h3,List.count_cons_self];omega
theorem zkS{α:Type}(l:List α)(i:Nat)(x:α)(h:i<l.length):(l.set i x).take (i+1)=l.take i++[x]:=by
 rw[List.take_succ_eq_append_getElem (by simpa using h)];simp[List.take_set_of_le]
theorem ziU(s:Str)(c:UInt8)(hs:s.length≤17179869184):za0 s [c]=some (zG c s):=by
 have hcl:=List.count_le_length (a:=c) (l:=s)
 have key:zaK s [c] 0 (-1)=some (zG c s):=by
  unfold zaK;obtain⟨N,hN⟩:∃N,zib=N:=⟨_,rfl⟩;have hN2:1099511627776≤N:=hN ▸ zgC;rw[hN];clear hN
  have hmin:min ((s.count c+1:Nat):Int) ((s.length+1:Nat):Int)=((s.count c+1:Nat):Int):=by omega
  simp only[zaw,count_eq,zf,show decide ((-1:Int)=0)=false from rfl,show decide ((-1:Int)<0)=true from rfl,show decide (([c]:Str)=[])=false from rfl,cond_true,cond_false];simp only[ze2 (s.count c) (by omega),ze2 s.length (by omega),hmin];rw[zg (by omega)]
  have hw:IntKind.i64.wrap (((s.count c+1:Nat):Int)-1)=((s.count c:Nat):Int):=by rw[zdq (by omega) (by omega)];omega
  simp only[hw,Int.toNat_natCast]
  refine(zfc (S:=Str×Int×List Str) (fun st=>∃i:Nat,st.2.1=i∧st.2.2.length=s.count c+1∧st.1.length≤s.length∧i+st.1.count c=s.count c) (fun st=>s.count c-st.2.1.toNat)
   (fun st=>some (st.2.2.take st.2.1.toNat++zG c st.1)) ?_ N _ ⟨0,rfl,by simp,Nat.le_refl _,by simp⟩ (by simp only;omega)).trans ?_
  ·rintro⟨t,i',o⟩ nx ⟨i,rfl,ho,ht,hc⟩ hnx
   simp only at ho ht hc hnx⊢;simp only[zjm,zf]
   by_cases hi:i<s.count c
   ·have hmem:c∈t:=by rw[←List.count_pos_iff];omega
    obtain⟨h1,h2,h3⟩:=zaB hmem;have hl:=(zcx c t).2.2 h1;obtain⟨t1,t2⟩:=zj5 hmem;rw[decide_eq_true (by omega),cond_true,zk2 hmem,decide_eq_false (by omega),cond_false]
    have hw3:IntKind.i64.wrap (((zX c t).1.length:Int)+0)=((zX c t).1.length:Int):=by rw[zdq (by omega) (by omega)];omega
    have hw4:IntKind.i64.wrap (((zX c t).1.length:Int)+(([c]:Str).length:Int))=(((zX c t).1.length+1:Nat):Int):=ze2 _ (by omega);simp only[hw3,hw4,ze2 i (by omega),Int.toNat_natCast];rw[zg (by omega),zg (by omega),zg (by omega)];have hdc:=zh8 hmem;simp only[t1,t2];rw[hnx _ ⟨i+1,rfl,by simpa using ho,by simp only;omega,by simp only;omega⟩ (by simp only[Int.toNat_natCast];omega)];simp only[Int.toNat_natCast];rw[zkS o i _ (by omega)]
    congr 1
    rw[show zG c t=(zX c t).1::zG c (zX c t).2.1 by rw[zcq,if_pos h1]];simp
   ·obtain rfl:i=s.count c:=by omega
    rw[decide_eq_false (by omega),cond_false]
    have hmem:c∉t:=by rw[←List.count_pos_iff];omega
    rw[zg (by omega),ze2 _ (by omega)];simp only[Int.toNat_natCast,List.length_set];rw[zg (by omega),zkS o _ _ (by omega),zex hmem]
  ·simp
 unfold za0
 rw[key];rfl
def HX:Str:=[48,49,50,51,52,53,54,55,56,57,97,98,99,100,101,102]
def hexb(n:Nat):UInt8:=HX.getD n 0
def zf2(c:UInt8):Bool:=decide ((c.toNat:Int)=92)||decide ((c.toNat:Int)=34)
def zjl(c:UInt8):Bool:=decide ((c.toNat:Int)<32)||decide (126<(c.toNat:Int))
def esc(c:UInt8):Str:=bif zf2 c then [92,c]else bif decide ((c.toNat:Int)=10)then [92,110]else bif zjl c then [92,120,hexb (c.toNat / 16),hexb (c.toNat % 16)]else [c]
def body(t:Str):Str:=t.flatMap esc
def ze4(t:Str):Str:=34::(body t++[34])
theorem u8all{p:UInt8→Prop}(h:∀n:Fin 256,p (UInt8.ofNat n.val))(c:UInt8):p c:=by
 have:=h ⟨c.toNat,c.toNat_lt⟩
 simpa using this
theorem hi4(c:UInt8):Int.fdiv (c.toNat:Int) (2^(shI .u8 4))=((c.toNat / 16:Nat):Int):=by
 revert c
 exact u8all (by decide +kernel)
theorem lo4(c:UInt8):zbc .and .u8 (c.toNat:Int) 15=((c.toNat % 16:Nat):Int):=by
 revert c
 exact u8all (by decide +kernel)
theorem hi4_lt(c:UInt8):c.toNat / 16<16:=by have:=c.toNat_lt;omega
theorem lo4_lt(c:UInt8):c.toNat % 16<16:=by omega
theorem u8i(c:UInt8):UInt8.ofNat ((c.toNat:Int)).toNat=c:=by simp
theorem zow(c:UInt8):(esc c).length≤4∧1≤(esc c).length:=by
 unfold esc
 cases zf2 c <;> cases decide ((c.toNat:Int)=10) <;> cases zjl c <;> simp
theorem body_len(t:Str):(body t).length≤4*t.length:=by
 induction t with
 |nil=>simp[body]
 |cons c t ih =>
  have:=(zow c).1;simp only[body,List.flatMap_cons,List.length_append,List.length_cons]at *;omega
theorem zhm(c:UInt8)(t:Str):body (c::t)=esc c++body t:=by simp[body]
theorem zhy(t:Str):(ze4 t).length≤4*t.length+2:=by
 have:=body_len t
 simp only[ze4,List.length_cons,List.length_append,List.length_nil];omega
theorem takeHex(n:Nat)(h:n<16):List.take ((IntKind.u8.wrap ((n:Int)+1)).toNat-((n:Int)).toNat) (List.drop ((n:Int)).toNat HX)=[hexb n]:=by
 have:∀m:Fin 16,List.take ((IntKind.u8.wrap (((m.val:Nat):Int)+1)).toNat-(((m.val:Nat):Int)).toNat) (List.drop (((m.val:Nat):Int)).toNat HX)=[hexb m.val]:=by decide +kernel
 exact this ⟨n,h⟩
theorem wrapHex(n:Nat)(h:n<16):IntKind.u8.wrap ((n:Int)+1)=((n+1:Nat):Int):=by
 have:∀m:Fin 16,IntKind.u8.wrap (((m.val:Nat):Int)+1)=((m.val+1:Nat):Int):=by decide +kernel
 exact this ⟨n,h⟩
theorem hxl:HX.length=16:=rfl
theorem zhK(s:Str)(hs:s.length≤17179869184):ziK s=some (ze4 s):=by
 unfold ziK;simp only[zaw,show([48,49,50,51,52,53,54,55,56,57,97,98,99,100,101,102]:Str)=HX from rfl];refine(zhD (fun i l (o:Str)=>o.length+4*l.length≤4*s.length+1∧s.drop i=l) (fun i l o=>some (o++(body l++[34]))) (fun i o h=>?_) (fun i c l o nx h hnx=>?_) s 0 _ ?_).trans ?_
 ·simp only[List.length_nil]at h
  rw[zg (by simp;omega)];rfl
 ·obtain⟨h,hd⟩:=h
  simp only[List.length_cons]at h
  have hi:i<s.length:=by
   rcases Nat.lt_or_ge i s.length with h|h
   ·exact h
   ·rw[List.drop_eq_nil_of_le h]at hd;cases hd
  have hd':s.drop (i+1)=l:=by
   have:=congrArg List.tail hd
   simpa using this
  have ht:List.take ((((i+1:Nat):Int)).toNat-i) (List.drop i s)=[c]:=by
   rw[hd,Int.toNat_natCast,Nat.add_sub_cancel_left];rfl
  simp only[ze2 i (by omega),ht];rw[zhm];unfold esc zf2;rw[show(decide ((c.toNat:Int)=34)||decide ((c.toNat:Int)=92))=(decide ((c.toNat:Int)=92)||decide ((c.toNat:Int)=34))from Bool.or_comm _ _]
  cases h1:decide ((c.toNat:Int)=92)||decide ((c.toNat:Int)=34)with
  |true =>
   simp only[cond_true];rw[zg (by omega),zg (by simp),zg (by simp;omega),hnx _ ⟨by simp;omega,hd'⟩];simp
  |false =>
   simp only[cond_false]
   cases h2:decide ((c.toNat:Int)=10)with
   |true =>
    simp only[cond_true];rw[zg (by simp;omega),hnx _ ⟨by simp;omega,hd'⟩];simp
   |false =>
    simp only[cond_false];unfold zjl
    cases h3:decide ((c.toNat:Int)<32)||decide (126<(c.toNat:Int))with
    |true =>
     have a1:=hi4_lt c;have a2:=lo4_lt c;simp only[cond_true,hi4,lo4];simp only[takeHex _ a1,takeHex _ a2];simp only[wrapHex _ a1,wrapHex _ a2,hxl];rw[zg (by omega),zg (by simp),zg (by omega),zg (by simp),zg (by simp;omega),hnx _ ⟨by simp;omega,hd'⟩];simp
    |false =>
     simp only[cond_false];rw[zg (by omega),zg (by simp;omega),hnx _ ⟨by simp;omega,hd'⟩];simp
 ·exact⟨by simp;omega,rfl⟩
 ·rfl
def zjD(c:UInt8):Int:=ixb HX c
theorem ze1(c:UInt8):zjD c=-1∨∃a:Fin 16,zjD c=(a.val:Int)∧c=hexb a.val:=by
 revert c
 exact u8all (by decide +kernel)
theorem zf4(n:Nat)(h:n<16):zjD (hexb n)=n:=by
 have:∀m:Fin 16,zjD (hexb m.val)=(m.val:Int):=by decide +kernel
 exact this ⟨n,h⟩
def zk5:Str→Int×Int
 |[]=>(0,0)
 |c::r=>bif zf2 c then((c.toNat:Int),1)else bif decide ((c.toNat:Int)=110)then(10,1)else bif !decide ((c.toNat:Int)=120)then(0,0)else match r with
  |h::l::_=>bif decide (zjD h<0)||decide (zjD l<0)then(0,0)else bif (decide (32≤16*zjD h+zjD l)&&decide (16*zjD h+zjD l≤126))||decide (16*zjD h+zjD l=10)then(0,0)else(16*zjD h+zjD l,3)
  |_=>(0,0)
theorem escR_bd(r:Str):0≤(zk5 r).2∧(zk5 r).2≤r.length∧(zk5 r).2≤3∧0≤(zk5 r).1∧(zk5 r).1≤255:=by
 cases r with
 |nil=>simp[zk5]
 |cons c r =>
  have hc:=c.toNat_lt;simp only[zk5];cases zf2 c
  ·cases decide ((c.toNat:Int)=110)
   ·cases decide ((c.toNat:Int)=120)
    ·simp;omega
    ·rcases r with _|⟨h,_|⟨l,r⟩⟩
     ·simp
     ·simp;try omega
     ·simp only[cond_false,Bool.not_true]
      rcases ze1 h with h1|⟨a,h1,_⟩
      ·simp[h1];omega
      rcases ze1 l with h2|⟨b,h2,_⟩
      ·simp[h2];omega
      have:=a.isLt;have:=b.isLt;simp only[h1,h2]
      cases decide (((a.val:Nat):Int)<0)||decide (((b.val:Nat):Int)<0)
      ·simp only[cond_false]
       generalize (decide (32≤16*((a.val:Nat):Int)+((b.val:Nat):Int))&&decide (16*((a.val:Nat):Int)+((b.val:Nat):Int)≤126)||decide (16*((a.val:Nat):Int)+((b.val:Nat):Int)=10))=q;cases q
       ·simp only[cond_false,List.length_cons];omega
       ·simp;omega
      ·simp;omega
   ·simp;omega
  ·simp only[cond_true,List.length_cons];omega
theorem escR_esc{x:UInt8}(h:zf2 x=true)(r:Str):zk5 (x::r)=((x.toNat:Int),1):=by simp only[zk5,h,cond_true]
theorem escR_bad{x:UInt8}(h:zf2 x=false)(h2:decide ((x.toNat:Int)=110)=false)(h3:decide ((x.toNat:Int)=120)=false)(r:Str):zk5 (x::r)=(0,0):=by simp only[zk5,h,h2,h3,cond_false,Bool.not_false,cond_true]
theorem zox(h l:UInt8)(r:Str):zk5 (120::h::l::r)=bif decide (zjD h<0)||decide (zjD l<0)then(0,0)else bif (decide (32≤16*zjD h+zjD l)&&decide (16*zjD h+zjD l≤126))||decide (16*zjD h+zjD l=10)then(0,0)else(16*zjD h+zjD l,3):=rfl
theorem escR_hexq(m n:Nat)(hm:m<16)(hn:n<16)(r:Str):zk5 (120::hexb m::hexb n::r)=bif (decide (32≤16*(m:Int)+(n:Int))&&decide (16*(m:Int)+(n:Int)≤126))||decide (16*(m:Int)+(n:Int)=10)then(0,0)else(16*(m:Int)+(n:Int),3):=by
 rw[zox,zf4 m hm,zf4 n hn,decide_eq_false (by omega),decide_eq_false (by omega)];rfl
theorem ibyte_eq(s:Str)(c:UInt8):za9 s (c.toNat:Int)=some (ixb s c):=by
 unfold za9 zR
 rw[zks];rfl
theorem wrapB(n:Int)(h:0≤n)(h2:n≤255):IntKind.u8.wrap n=n:=by
 rw[wrap8 h h2]
theorem zmQ(s:Str):zff s=some (zk5 s):=by
 unfold zff
 cases s with
 |nil=>rfl
 |cons c r =>
  simp only[show decide (c::r=([]:Str))=false from rfl,cond_false];rw[show zgR (c::r) 0=zgR (c::r) ((0:Nat):Int)from rfl,zeI (by simp)];simp only[List.getElem_cons_zero];simp only[zk5];rw[show(decide ((c.toNat:Int)=92)||decide ((c.toNat:Int)=34))=zf2 c from rfl];cases zf2 c
  ·simp only[cond_false]
   cases decide ((c.toNat:Int)=110)
   ·simp only[cond_false]
    cases decide ((c.toNat:Int)=120)
    ·rfl
    ·simp only[Bool.not_true,Bool.false_or,cond_false]
     rcases r with _|⟨h,_|⟨l,r⟩⟩
     ·rfl
     ·rfl
     ·rw[decide_eq_false (by simp only[List.length_cons];omega),cond_false,show zgR (c::h::l::r) 1=zgR (c::h::l::r) ((1:Nat):Int)from rfl,zeI (by simp)]
      simp only[List.getElem_cons_succ,List.getElem_cons_zero,show([48,49,50,51,52,53,54,55,56,57,97,98,99,100,101,102]:Str)=HX from rfl,ibyte_eq,zf];rw[show zgR (c::h::l::r) 2=zgR (c::h::l::r) ((2:Nat):Int)from rfl,zeI (by simp)];simp only[List.getElem_cons_succ,List.getElem_cons_zero,ibyte_eq,zf];rw[show ixb HX h=zjD h from rfl,show ixb HX l=zjD l from rfl]
      rcases ze1 h with h1|⟨a,h1,_⟩
      ·rw[h1];rfl
      rcases ze1 l with h2|⟨b,h2,_⟩
      ·rw[h2];simp
      have ha:=a.isLt;have hb:=b.isLt;rw[h1,h2,decide_eq_false (by omega),decide_eq_false (by omega)];simp only[Bool.or_false,cond_false];rw[zdq (n:=16*((a.val:Nat):Int)) (by omega) (by omega),zdq (n:=16*((a.val:Nat):Int)+((b.val:Nat):Int)) (by omega) (by omega),wrapB _ (by omega) (by omega)];generalize (decide (32≤16*((a.val:Nat):Int)+((b.val:Nat):Int))&&decide (16*((a.val:Nat):Int)+((b.val:Nat):Int)≤126)||decide (16*((a.val:Nat):Int)+((b.val:Nat):Int)=10))=q
      cases q <;> rfl
   ·rfl
  ·rfl
def sym:Str→Option (UInt8×Str)
 |[]=>none
 |c::r=>bif zjl c||decide ((c.toNat:Int)=34)then none else bif decide ((c.toNat:Int)=92)then(bif decide ((zk5 r).2=0)then none else some (UInt8.ofNat (zk5 r).1.toNat,r.drop (zk5 r).2.toNat))else some (c,r)
theorem far_hex(x:UInt8)(h1:zf2 x=false)(h2:decide ((x.toNat:Int)=10)=false)(h3:zjl x=true)(r:Str):zk5 (120::hexb (x.toNat / 16)::hexb (x.toNat % 16)::r)=((x.toNat:Int),3):=by
 have a1:=hi4_lt x;have a2:=lo4_lt x;simp only[zk5];rw[show zf2 120=false from rfl,show decide ((((120:UInt8).toNat:Nat):Int)=110)=false from rfl,show decide ((((120:UInt8).toNat:Nat):Int)=120)=true from rfl];simp only[cond_false,Bool.not_true,zf4 _ a1,zf4 _ a2]
 have e:16*((x.toNat / 16:Nat):Int)+((x.toNat % 16:Nat):Int)=(x.toNat:Int):=by omega
 rw[e,decide_eq_false (by omega),decide_eq_false (by omega)];simp only[Bool.or_self,cond_false,h2,Bool.or_false]
 have:(decide (32≤(x.toNat:Int))&&decide ((x.toNat:Int)≤126))=false:=by
  unfold zjl at h3;simp only[Bool.or_eq_true,decide_eq_true_eq]at h3;simp only[Bool.and_eq_false_iff,decide_eq_false_iff_not];omega
 rw[this];rfl
theorem sym_esc(x:UInt8)(r:Str):sym (esc x++r)=some (x,r):=by
 unfold esc;cases h1:zf2 x
 ·cases h2:decide ((x.toNat:Int)=10)
  ·cases h3:zjl x
   ·simp only[cond_false,List.cons_append,List.nil_append]
    simp only[sym];unfold zf2 at h1;simp only[Bool.or_eq_false_iff]at h1
    rw[h3,h1.1,h1.2];rfl
   ·simp only[cond_false,cond_true,List.cons_append,List.nil_append]
    simp only[sym];rw[far_hex x h1 h2 h3];simp;rfl
  ·simp only[cond_false,cond_true,List.cons_append,List.nil_append]
   have:x=10:=by
    have h:=of_decide_eq_true h2
    have:x.toNat=10:=by omega
    exact UInt8.toNat_inj.1 this
   subst this;rfl
 ·simp only[cond_true,List.cons_append,List.nil_append]
  simp only[sym,escR_esc h1];simp;rfl
theorem sym_spec{r r2:Str}{x:UInt8}(h:sym r=some (x,r2)):r=esc x++r2:=by
 cases r with
 |nil=>cases h
 |cons c r =>
  simp only[sym]at h
  cases hf:zjl c||decide ((c.toNat:Int)=34)
  ·rw[hf,cond_false]at h
   simp only[Bool.or_eq_false_iff]at hf;cases hb:decide ((c.toNat:Int)=92)
   ·rw[hb,cond_false]at h
    cases h;unfold esc zf2;rw[hb,hf.2]
    have:decide ((x.toNat:Int)=10)=false:=by
     have:=hf.1;unfold zjl at this;simp only[Bool.or_eq_false_iff,decide_eq_false_iff_not]at this;simp only[decide_eq_false_iff_not];omega
    rw[this,hf.1];rfl
   ·rw[hb,cond_true]at h
    have hc:c=92:=by
     have h:=of_decide_eq_true hb
     have:c.toNat=92:=by omega
     exact UInt8.toNat_inj.1 this
    subst hc
    cases r with
    |nil=>simp[zk5]at h
    |cons d r =>
     cases he:zf2 d
     ·cases hn:decide ((d.toNat:Int)=110)
      ·cases hx:decide ((d.toNat:Int)=120)
       ·rw[escR_bad he hn hx]at h;simp at h
       ·have hd:d=120:=by
         have h:=of_decide_eq_true hx
         have:d.toNat=120:=by omega
         exact UInt8.toNat_inj.1 this
        subst hd
        rcases r with _|⟨a,_|⟨b,r⟩⟩
        ·rw[show zk5 [120]=(0,0)from rfl]at h;simp at h
        ·rw[show zk5 [120,a]=(0,0)from rfl]at h;simp at h
        ·rcases ze1 a with h1|⟨m,h1,rfl⟩
         ·rw[zox,h1]at h;simp at h
         rcases ze1 b with h2|⟨n,h2,rfl⟩
         ·rw[zox,h2]at h;simp at h
         have hm:=m.isLt;have hn':=n.isLt;have hE:=escR_hexq m.val n.val hm hn' r
         cases hq:(decide (32≤16*((m.val:Nat):Int)+((n.val:Nat):Int))&&decide (16*((m.val:Nat):Int)+((n.val:Nat):Int)≤126))||decide (16*((m.val:Nat):Int)+((n.val:Nat):Int)=10)
         ·rw[hq,cond_false]at hE
          rw[hE]at h;rw[show decide ((3:Int)=0)=false from rfl,cond_false]at h;have h':=Option.some.inj h;have hx':UInt8.ofNat (16*((m.val:Nat):Int)+((n.val:Nat):Int)).toNat=x:=congrArg Prod.fst h';have hr':List.drop (3:Int).toNat (120::hexb m.val::hexb n.val::r)=r2:=congrArg Prod.snd h';have hr2:r=r2:=hr'
          have hxn:x.toNat=16*m.val+n.val:=by
           rw[←hx',UInt8.toNat_ofNat'];omega
          simp only[Bool.or_eq_false_iff,Bool.and_eq_false_iff,decide_eq_false_iff_not]at hq;unfold esc
          have e1:zf2 x=false:=by
           unfold zf2;simp only[Bool.or_eq_false_iff,decide_eq_false_iff_not];omega
          have e2:decide ((x.toNat:Int)=10)=false:=by simp only[decide_eq_false_iff_not];omega
          have e3:zjl x=true:=by
           unfold zjl;simp only[Bool.or_eq_true,decide_eq_true_eq];omega
          rw[e1,e2,e3,hxn,show(16*m.val+n.val) / 16=m.val by omega,show(16*m.val+n.val) % 16=n.val by omega,←hr2];rfl
         ·rw[hq,cond_true]at hE
          rw[hE]at h;simp at h
      ·have hd:d=110:=by
        have h:=of_decide_eq_true hn
        have:d.toNat=110:=by omega
        exact UInt8.toNat_inj.1 this
       subst hd;have h':some ((10:UInt8),r)=some (x,r2):=h;cases h';rfl
     ·rw[escR_esc he]at h
      simp only[]at h;rw[show decide ((1:Int)=0)=false from rfl,cond_false,u8i]at h;cases h;unfold esc
      rw[he];rfl
  ·rw[hf,cond_true]at h;cases h
def undo:Nat→Str→Option Str
 |n,[]=>some []
 |0,_::_=>none
 |n+1,c::r=>(sym (c::r)).bind fun p=>(undo n p.2).map (p.1::·)
theorem zkR(n:Nat):undo n []=some []:=by cases n <;> rfl
theorem undo_zero(c:UInt8)(r:Str):undo 0 (c::r)=none:=rfl
theorem zgV(n:Nat)(c:UInt8)(r:Str):undo (n+1) (c::r)=(sym (c::r)).bind fun p=>(undo n p.2).map (p.1::·):=rfl
theorem esc_ne(x:UInt8):esc x≠[]:=by
 have:=(zow x).2
 intro h;rw[h]at this;simp at this
theorem undo_body:∀(t:Str) (n:Nat),t.length≤n→undo n (body t)=some t
 |[],n,_=>zkR n
 |x::t,0,h=>by simp at h
 |x::t,n+1,h=>by
  rw[zhm];have hs:=sym_esc x (body t)
  have hne:esc x++body t≠[]:=fun h=>esc_ne x (List.append_eq_nil_iff.1 h).1
  obtain⟨c,r,hb⟩:=List.exists_cons_of_ne_nil hne;rw[hb]at hs⊢
  rw[zgV,hs,Option.bind_some,undo_body t n (by simpa using h)];rfl
theorem zmV:∀(n:Nat) (r t:Str),undo n r=some t→body t=r
 |n,[],t,h=>by
  rw[zkR]at h;obtain rfl:=Option.some.inj h;rfl
 |0,c::r,t,h=>by rw[undo_zero]at h;cases h
 |n+1,c::r,t,h=>by
  rw[zgV]at h;obtain⟨p,hs,h⟩:=Option.bind_eq_some_iff.1 h;obtain⟨t2,hu,h⟩:=Option.map_eq_some_iff.1 h;rw[←h,zhm,zmV n p.2 t2 hu];exact(sym_spec (x:=p.1) (r2:=p.2) hs).symm
theorem sym_len{r r2:Str}{x:UInt8}(h:sym r=some (x,r2)):r2.length<r.length:=by
 have:=sym_spec h;have hl:=(zow x).2
 rw[this,List.length_append];omega
theorem zk8{α β:Type}{o:Option α}{f g:α→Option β}(h:∀p,o=some p→f p=g p):o.bind f=o.bind g:=by
 cases o with
 |none=>rfl
 |some p=>exact h p rfl
theorem zid:∀(n:Nat) (r:Str),r.length≤n→undo n r=undo r.length r
 |n,[],_=>by rw[zkR,zkR]
 |0,c::r,h=>by simp at h
 |n+1,c::r,h=>by
  rw[List.length_cons,zgV,zgV]
  refine zk8 fun p hs=>?_
  have hl:=sym_len (x:=p.1) (r2:=p.2) hs;rw[List.length_cons]at hl h;rw[zid n p.2 (by omega),zid r.length p.2 (by omega)]
def zjH(r:Str):Option Str:=undo r.length r
theorem undoF_step{c:UInt8}{r:Str}:zjH (c::r)=(sym (c::r)).bind fun p=>(zjH p.2).map (p.1::·):=by
 unfold zjH;rw[List.length_cons,zgV]
 refine zk8 fun p hs=>?_
 have hl:=sym_len (x:=p.1) (r2:=p.2) hs;rw[List.length_cons]at hl;rw[zid r.length p.2 (by omega)]
theorem body_ge(t:Str):t.length≤(body t).length:=by
 induction t with
 |nil=>simp
 |cons c t ih =>
  have:=(zow c).2;rw[zhm,List.length_append,List.length_cons];omega
theorem undoF_body(t:Str):zjH (body t)=some t:=undo_body t _ (body_ge t)
theorem zie{r t:Str}(h:zjH r=some t):body t=r:=zmV _ _ _ h
def fin(o:Option Str):Str×Int:=match o with
 |some t=>(t,0)
 |none=>([],8)
def mid(s:Str):Str:=(s.drop 1).take (s.length-2)
def zi1(s:Str):Bool:=!((decide ((s.length:Int)<2)||!decide (((s.getD 0 0).toNat:Int)=34))||!decide (((s.getD (s.length-1) 0).toNat:Int)=34))
def zkA(s:Str):Str×Int:=bif zi1 s then fin (zjH (mid s))else([],8)
theorem zon(s:Str)(h:2≤s.length)(h2:s.length≤17179869184):IntKind.i64.wrap ((s.length:Int)-1)=((s.length-1:Nat):Int):=wrapm1 _ (by omega) (by omega)
theorem zme(s:Str)(hs:s.length≤17179869184):zdm s=some (zkA s):=by
 unfold zdm zkA zi1;obtain⟨N,hN⟩:∃N,zib=N:=⟨_,rfl⟩;have hN2:1099511627776≤N:=hN ▸ zgC;rw[hN];clear hN
 by_cases h2:2≤s.length
 rotate_left
 ·rw[show decide ((s.length:Int)<2)=true by simp;omega]
  simp only[Bool.not_true,Bool.true_or];rw[zg (by intro h;cases h),zg (by intro h;cases h)];rfl
 rw[show decide ((s.length:Int)<2)=false by simp;omega];rw[zon s h2 hs];simp only[Bool.false_or,Int.toNat_natCast];rw[zg (by intro _;omega),zg (by intro _;omega)];generalize (!decide (((s.getD 0 0).toNat:Int)=34)||!decide (((s.getD (s.length-1) 0).toNat:Int)=34))=q;cases q
 rotate_left
 ·rfl
 have hm:List.take (s.length-1-1) (List.drop 1 s)=mid s:=by unfold mid;congr 1
 simp only[cond_false,Bool.not_false,cond_true,hm,zaw]
 have hml:(mid s).length=s.length-2:=by simp[mid];omega
 rw[zg (by omega),zg (by omega)];refine(zfc (S:=Int×List Int) (fun st=>∃i:Nat,st.1=i∧i≤(mid s).length∧st.2.length≤i) (fun st=>(mid s).length-st.1.toNat) (fun st=>some (fin ((zjH ((mid s).drop st.1.toNat)).map (Go.Vc.strOf st.2++·)))) ?_ N _ ⟨0,rfl,by omega,by simp⟩ (by simp only;omega)).trans ?_
 ·rintro⟨i',o⟩ nx ⟨i,rfl,hi,ho⟩ hnx
  simp only at ho hnx⊢
  by_cases hlt:i<(mid s).length
  ·rw[decide_eq_true (by omega),cond_true,zeI hlt]
   simp only[Int.toNat_natCast];rw[List.drop_eq_getElem_cons hlt,undoF_step];generalize hcc:(mid s)[i]=c;rw[show((decide ((c.toNat:Int)<32)||decide (126<(c.toNat:Int)))||decide ((c.toNat:Int)=34))=(zjl c||decide ((c.toNat:Int)=34))from rfl];simp only[sym]
   cases hf:zjl c||decide ((c.toNat:Int)=34)
   ·simp only[cond_false]
    cases hb:decide ((c.toNat:Int)=92)
    ·simp only[cond_false]
     rw[ze2 i (by omega),zg (by simp;omega),hnx _ ⟨i+1,rfl,by omega,by simp;omega⟩ (by simp only[Int.toNat_natCast];omega)];simp only[Int.toNat_natCast];rw[Option.bind_some]
     cases zjH ((mid s).drop (i+1))with
     |none=>rfl
     |some t=>simp only[Option.map_some,zgW,zjJ,zlm,u8i];simp[fin]
    ·simp only[cond_true]
     rw[ze2 i (by omega),zg (by omega)];simp only[Int.toNat_natCast,zmQ,zf];have hbd:=escR_bd ((mid s).drop (i+1));rw[List.length_drop]at hbd;generalize hE:zk5 ((mid s).drop (i+1))=E at hbd;obtain⟨x,n⟩:=E;simp only at hbd⊢;cases hz:decide (n=0)
     ·simp only[cond_false]
      have hn0:n≠0:=of_decide_eq_false hz;rw[zg (by simp;omega),zdq (n:=(i:Int)+n) (by omega) (by omega),zdq (n:=(i:Int)+n+1) (by omega) (by omega)]
      have e:(i:Int)+n+1=((i+n.toNat+1:Nat):Int):=by omega
      rw[e,hnx _ ⟨i+n.toNat+1,rfl,by omega,by simp;omega⟩ (by simp only[Int.toNat_natCast];omega)];simp only[Int.toNat_natCast,List.drop_drop];rw[show i+1+n.toNat=i+n.toNat+1 by omega];rw[Option.bind_some];simp only
      cases zjH ((mid s).drop (i+n.toNat+1))with
      |none=>rfl
      |some t=>simp only[Option.map_some,zgW,zjJ,zlm];simp[fin]
     ·rfl
   ·rfl
  ·obtain rfl:i=(mid s).length:=by omega
   rw[decide_eq_false (by omega),cond_false,Int.toNat_natCast,List.drop_length]
   show _=some (Go.Vc.strOf o++[],(0:Int))
   rw[List.append_nil]
 ·simp only[Int.toNat_zero,List.drop_zero,List.replicate]
  cases zjH (mid s)with
  |none=>rfl
  |some t=>rfl
def hexw(h l:UInt8):Int:=IntKind.u8.wrap (IntKind.i64.wrap ((IntKind.i64.wrap (zjD h*16))+zjD l))
def isEsc'(c:UInt8):Bool:=decide ((c.toNat:Int)=34)||decide ((c.toNat:Int)=92)
theorem isEsc'_eq(c:UInt8):isEsc' c=zf2 c:=Bool.or_comm _ _
def zlV:Str→Option (Int×Str)
 |d::r=>bif isEsc' d then some ((d.toNat:Int),r)else bif decide ((d.toNat:Int)=110)then some (10,r)else bif decide ((d.toNat:Int)=120)then(match r with
  |h::l::r'=>some (hexw h l,r')
  |_=>none)else none
 |[]=>none
def lsym:Str→Option (Int×Str)
 |[]=>none
 |c::r=>bif !decide ((c.toNat:Int)=92)then some ((c.toNat:Int),r)else zlV r
theorem hexw_eq(m n:Nat)(hm:m<16)(hn:n<16):hexw (hexb m) (hexb n)=16*m+n:=by
 unfold hexw;rw[zf4 m hm,zf4 n hn,zdq (n:=(m:Int)*16) (by omega) (by omega),zdq (n:=(m:Int)*16+n) (by omega) (by omega),wrapB _ (by omega) (by omega)];omega
theorem lsym_esc(x:UInt8)(r:Str):lsym (esc x++r)=some ((x.toNat:Int),r):=by
 unfold esc;cases h1:zf2 x
 ·cases h2:decide ((x.toNat:Int)=10)
  ·cases h3:zjl x
   ·simp only[cond_false,List.cons_append,List.nil_append,lsym]
    unfold zf2 at h1;simp only[Bool.or_eq_false_iff]at h1
    rw[h1.1];rfl
   ·simp only[cond_false,cond_true,List.cons_append,List.nil_append,lsym]
    have a1:=hi4_lt x;have a2:=lo4_lt x
    show some (hexw (hexb (x.toNat / 16)) (hexb (x.toNat % 16)),r)=_
    rw[hexw_eq _ _ a1 a2]
    congr 2
    omega
  ·simp only[cond_false,cond_true,List.cons_append,List.nil_append]
   have h:=of_decide_eq_true h2
   rw[h];rfl
 ·simp only[cond_true,List.cons_append,List.nil_append,lsym]
  show zlV (x::r)=_
  simp only[zlV,isEsc'_eq,h1,cond_true]
theorem lsym_len{r:Str}{p:Int×Str}(h:lsym r=some p):p.2.length<r.length:=by
 cases r with
 |nil=>cases h
 |cons c r =>
  simp only[lsym]at h;cases hc:!decide ((c.toNat:Int)=92)
  ·rw[hc,cond_false]at h
   cases r with
   |nil=>cases h
   |cons d r =>
    simp only[zlV]at h;cases h1:isEsc' d
    ·rw[h1,cond_false]at h
     cases h2:decide ((d.toNat:Int)=110)
     ·rw[h2,cond_false]at h
      cases h3:decide ((d.toNat:Int)=120)
      ·rw[h3,cond_false]at h;cases h
      ·rw[h3,cond_true]at h
       rcases r with _|⟨a,_|⟨b,r⟩⟩
       ·cases h
       ·cases h
       ·have:=(Option.some.inj h).symm
        rw[this];simp only[List.length_cons];omega
     ·rw[h2,cond_true]at h
      have:=(Option.some.inj h).symm
      rw[this];simp only[List.length_cons];omega
    ·rw[h1,cond_true]at h
     have:=(Option.some.inj h).symm
     rw[this];simp only[List.length_cons];omega
  ·rw[hc,cond_true]at h
   have:=(Option.some.inj h).symm
   rw[this];simp only[List.length_cons];omega
def lund:Nat→Str→List Int→Option (List Int)
 |n,[],o=>some o
 |0,_::_,_=>none
 |n+1,c::r,o=>(lsym (c::r)).bind fun p=>lund n p.2 (o++[p.1])
theorem zoc(n:Nat)(o:List Int):lund n [] o=some o:=by cases n <;> rfl
theorem zlU(n:Nat)(c:UInt8)(r:Str)(o:List Int):lund (n+1) (c::r) o=(lsym (c::r)).bind fun p=>lund n p.2 (o++[p.1]):=rfl
theorem zir:∀(n:Nat) (r:Str) (o:List Int),r.length≤n→lund n r o=lund r.length r o
 |n,[],o,_=>by rw[zoc,zoc]
 |0,c::r,o,h=>by simp at h
 |n+1,c::r,o,h=>by
  rw[List.length_cons,zlU,zlU]
  refine zk8 fun p hs=>?_
  have hl:=lsym_len hs;rw[List.length_cons]at hl h;rw[zir n p.2 _ (by omega),zir r.length p.2 _ (by omega)]
def lundF(r:Str)(o:List Int):Option (List Int):=lund r.length r o
theorem zng{c:UInt8}{r:Str}{o:List Int}:lundF (c::r) o=(lsym (c::r)).bind fun p=>lundF p.2 (o++[p.1]):=by
 unfold lundF;rw[List.length_cons,zlU]
 refine zk8 fun p hs=>?_
 have hl:=lsym_len hs;rw[List.length_cons]at hl;rw[zir r.length p.2 _ (by omega)]
theorem znh:∀(t:Str) (o:List Int),lundF (body t) o=some (o++zfH t)
 |[],o=>by rw[show body []=[]from rfl];simp[lundF,zoc,zfH]
 |x::t,o=>by
  rw[zhm];have hs:=lsym_esc x (body t)
  have hne:esc x++body t≠[]:=fun h=>esc_ne x (List.append_eq_nil_iff.1 h).1
  obtain⟨c,r,hb⟩:=List.exists_cons_of_ne_nil hne;rw[hb]at hs⊢;rw[zng,hs,Option.bind_some,znh t];simp[zfH]
theorem strOf_bytes(t:Str):Go.Vc.strOf (zfH t)=t:=ziS t
theorem zlB(s:Str)(h:zi1 s=true):s=34::(mid s++[34]):=by
 unfold zi1 at h;simp only[Bool.not_eq_true',Bool.or_eq_false_iff,decide_eq_false_iff_not,Bool.not_eq_false',decide_eq_true_eq]at h;obtain⟨⟨h1,h2⟩,h3⟩:=h
 rcases s with _|⟨c,r⟩
 ·simp at h1
 have hr:r≠[]:=by rintro rfl;simp at h1
 have hc:c=34:=by
  have:c.toNat=34:=by rw[List.getD_cons_zero]at h2;omega
  exact UInt8.toNat_inj.1 this
 have hrl:0<r.length:=List.length_pos_iff.2 hr
 have hl:r.getLast hr=34:=by
  rw[show(c::r).length-1=(r.length-1)+1 by simp;omega,List.getD_cons_succ,List.getD_eq_getElem?_getD,List.getElem?_eq_getElem (by omega),Option.getD_some]at h3;rw[List.getLast_eq_getElem]
  have:(r[r.length-1]'(by omega)).toNat=34:=by omega
  exact UInt8.toNat_inj.1 this
 have hm:mid (c::r)=r.dropLast:=by
  unfold mid;rw[List.dropLast_eq_take];simp
 rw[hm,hc]
 congr 1
 rw[←hl];exact(List.dropLast_concat_getLast hr).symm
theorem two_get(c d:UInt8)(r:Str):(c::d::r).getD 1 0=d:=rfl
theorem R_Unquote_eq(s:Str)(hs:s.length≤17179869184):zho s=some (zkA s):=by
 unfold zho zkA;obtain⟨N,hN⟩:∃N,zib=N:=⟨_,rfl⟩;have hN2:1099511627776≤N:=hN ▸ zgC;rw[hN];clear hN;cases hq:zi1 s
 ·unfold zi1 at hq
  simp only[Bool.not_eq_false']at hq
  by_cases h2:2≤s.length
  ·rw[show decide ((s.length:Int)<2)=false by simp;omega]at hq⊢
   rw[zon s h2 hs];simp only[Bool.false_or,Int.toNat_natCast]at hq⊢;rw[zg (by intro _;omega),zg (by intro _;omega),hq];rfl
  ·rw[show decide ((s.length:Int)<2)=true by simp;omega]
   simp only[Bool.not_true,Bool.true_or];rw[zg (by intro h;cases h),zg (by intro h;cases h)];rfl
 have hsp:=zlB s hq;unfold zi1 at hq;simp only[Bool.not_eq_true']at hq
 have h2:2≤s.length:=by
  simp only[Bool.or_eq_false_iff,decide_eq_false_iff_not]at hq;omega
 rw[show decide ((s.length:Int)<2)=false by simp;omega]at hq⊢;rw[zon s h2 hs];simp only[Bool.false_or,Int.toNat_natCast]at hq⊢;rw[zg (by intro _;omega),zg (by intro _;omega),hq]
 have hm:List.take (s.length-1-1) (List.drop 1 s)=mid s:=by unfold mid;congr 1
 have hml:(mid s).length=s.length-2:=by simp[mid];omega
 simp only[cond_false,cond_true,hm,zaw];rw[zg (by omega)]
 refine(zfc (S:=Str×List Int) (fun st=>st.2.length+st.1.length≤s.length) (fun st=>st.1.length) (fun st=>match lundF st.1 st.2 with
   |some o=>bif !decide (ze4 (Go.Vc.strOf o)=s)then some (([]:Str),(8:Int))else some (Go.Vc.strOf o,0)
   |none=>some ([],8)) ?_ N _ (by simp only[List.length_nil];omega) (by simp only;omega)).trans ?_
 ·rintro⟨b,o⟩ nx hi hnx
  dsimp +instances only at hi hnx⊢
  cases b with
  |nil =>
   simp only[show decide (([]:Str)=[])=true from rfl,Bool.not_true,cond_false];rw[zhK _ (by simp[Go.Vc.strOf];simp at hi;omega),zf];rfl
  |cons c r =>
   simp only[show decide (c::r=([]:Str))=false from rfl,Bool.not_false,cond_true];rw[show zgR (c::r) 0=zgR (c::r) ((0:Nat):Int)from rfl,zeI (by simp)];simp only[List.getElem_cons_zero];rw[zng];simp only[List.length_cons]at hi;cases hc:!decide ((c.toNat:Int)=92)
   ·simp only[cond_false]
    cases r with
    |nil =>
     simp only[List.length_cons,List.length_nil];rw[zg (by intro h;simp at h),zg (by intro h;simp at h)];simp only[show decide ((2:Int)≤((0+1:Nat):Int))=false from rfl,show decide ((4:Int)≤((0+1:Nat):Int))=false from rfl,Bool.false_and,cond_false];rw[zg (by intro h;cases h),zg (by intro h;cases h)];simp only[lsym,hc,cond_false,zlV];rfl
    |cons d r =>
     rw[show decide ((2:Int)≤((c::d::r).length:Int))=true by simp;omega];dsimp +instances only [two_get];simp only[Bool.true_and];rw[zg (by intro h;simp;omega),zg (by intro h;simp;omega)];rw[show(decide ((d.toNat:Int)=34)||decide ((d.toNat:Int)=92))=isEsc' d from rfl];simp only[List.length_cons]at hi;cases h1:isEsc' d
     ·simp only[cond_false]
      rw[zg (by intro h;simp;omega)];cases h3:decide ((d.toNat:Int)=110)
      ·simp only[cond_false]
       rw[zg (by intro h;simp;omega)];cases h4:decide ((d.toNat:Int)=120)
       ·simp only[Bool.and_false,cond_false,lsym,hc,zlV,h1,h3,h4]
        rfl
       ·simp only[Bool.and_true]
        rcases r with _|⟨a,_|⟨e,r⟩⟩
        ·simp only[show decide ((4:Int)≤(([c,d]:Str).length:Int))=false from rfl,cond_false,lsym,hc,zlV,h1,h3,h4,cond_true]
         rfl
        ·simp only[show decide ((4:Int)≤(([c,d,a]:Str).length:Int))=false from rfl,cond_false,lsym,hc,zlV,h1,h3,h4,cond_true]
         rfl
        ·rw[show decide ((4:Int)≤((c::d::a::e::r).length:Int))=true by simp;omega,cond_true]
         rw[zg (by simp;omega)];rw[show List.take (3-2) (List.drop 2 (c::d::a::e::r))=[a]from rfl,show List.take (4-3) (List.drop 3 (c::d::a::e::r))=[e]from rfl];rw[show([48,49,50,51,52,53,54,55,56,57,97,98,99,100,101,102]:Str)=HX from rfl,zjm,zjm,zf,zg (by simp;omega),zf];rw[show IntKind.u8.wrap (IntKind.i64.wrap (IntKind.i64.wrap (ixb HX a*16)+ixb HX e))=hexw a e from rfl];simp only[List.length_cons]at hi;rw[zg (by simp;omega),zg (by simp;omega),hnx _ (by simp;omega) (by simp;omega)];simp only[cond_false,lsym,hc,zlV,h1,h3,h4,cond_true,Option.bind_some];rfl
      ·simp only[cond_true]
       rw[zg (by simp;omega),zg (by simp;omega),hnx _ (by simp;omega) (by simp;omega)];simp only[cond_false,lsym,hc,zlV,h1,h3,cond_true,Option.bind_some];rfl
     ·simp only[cond_true]
      rw[show zgR (c::d::r) 1=zgR (c::d::r) ((1:Nat):Int)from rfl,zeI (by simp)];simp only[List.getElem_cons_succ,List.getElem_cons_zero];rw[zg (by simp;omega),zg (by simp;omega),hnx _ (by simp;omega) (by simp;omega)];simp only[cond_false,lsym,hc,zlV,h1,cond_true,Option.bind_some];rfl
   ·simp only[cond_true]
    rw[zg (by simp;omega),zg (by simp;omega),hnx _ (by simp;omega) (by simp)];simp only[lsym,hc,cond_true,Option.bind_some];rfl
 ·simp only[Bool.not_false,cond_true]
  cases hu:zjH (mid s)with
  |some t =>
   have hb:=zie hu;rw[←hb,znh,List.nil_append];simp only[strOf_bytes]
   have:ze4 t=s:=by
    unfold ze4
    rw[hb];exact hsp.symm
   rw[this];simp only[decide_true,Bool.not_true,cond_false,fin]
  |none =>
   cases hl:lundF (mid s) []with
   |none=>rfl
   |some o =>
    have:ze4 (Go.Vc.strOf o)≠s:=by
     intro h;rw[hsp]at h;unfold ze4 at h;have h':=(List.cons.inj h).2;have hb:=List.append_cancel_right h';rw[←hb,undoF_body]at hu;cases hu
    simp only[decide_eq_false this,Bool.not_false,cond_true,fin]
def allI{α:Type}(q:Nat→α→Bool):Nat→List α→Bool
 |_,[]=>true
 |i,x::l=>q i x&&allI q (i+1) l
section
variable {Z α:Type}
theorem forL_allI{f:Nat→α→Unit→(Unit→Option Z)→(Unit→Option Z)→Option Z}{z:Z}(q:Nat→α→Bool)(hf:∀i x nx k,f i x () nx k=bif q i x then nx ()else some z)(k:Unit→Option Z) :
  ∀(l:List α) (i:Nat),forL l i f () k=bif allI q i l then k ()else some z
 |[],i=>rfl
 |x::l,i=>by
  unfold forL allI;rw[hf,forL_allI q hf k l (i+1)]
  cases q i x <;> rfl
end
def ziV(c:UInt8):Bool:=decide (97≤(c.toNat:Int))&&decide ((c.toNat:Int)≤122)
def zcN(c:UInt8):Bool:=decide (48≤(c.toNat:Int))&&decide ((c.toNat:Int)≤57)
def zkJ(c:UInt8):Bool:=((ziV c||zcN c)||decide ((c.toNat:Int)=45))||decide ((c.toNat:Int)=46)
def zbe(s:Str):Bool:=((s.all zkJ&&(!decide (s=[])&&decide ((s.length:Int)≤40)))&&ziV (s.getD 0 0))
theorem orG(a b:Bool):(a||bif !a then b else false)=(a||b):=by cases a <;> rfl
theorem zlc(c:UInt8):zeu (c.toNat:Int)=some (zkJ c):=by
 unfold zeu zcm zd3;simp only[zf,zad,orG];rfl
theorem zdu(s:Str):zbG s=some (zbe s):=by
 unfold zbG zgp;simp only[zaw];rw[zc4 zkJ (fun i x nx k=>by simp only[zlc,zf];cases zkJ x <;> rfl)];simp only[zeX,zf];rw[zg]
 ·unfold zcm
  simp only[zad];unfold zbe ziV;generalize hA:s.all zkJ=A
  cases A <;> simp only[cond_true,cond_false,Bool.false_and,Bool.true_and]
  generalize hB:(!decide (s=[])&&decide ((s.length:Int)≤40))=B
  cases B <;> rfl
 ·intro h
  cases s with
  |nil=>cases hA:List.all [] zkJ <;> rw[hA]at h <;> simp at h
  |cons=>simp only[List.length_cons];omega
theorem allI_all{α:Type}{q:Nat→α→Bool}{p:α→Bool}:∀(l:List α) (i:Nat),(∀j x,i≤j→q j x=p x)→allI q i l=l.all p
 |[],i,_=>rfl
 |x::l,i,h=>by
  unfold allI;rw[h i x (Nat.le_refl _),allI_all l (i+1) (fun j x hj=>h j x (by omega)),List.all_cons]
theorem zdb(s:Str):zes s=some (zbe s):=by
 unfold zes;simp only[zaw];refine(forL_allI (z:=false) (fun i c=>!((decide ((i:Int)=0)&&!ziV c)||!zkJ c)) (fun i c nx k=>?_) _ _ _).trans ?_
 ·rw[zmR]
  congr 1
  unfold zkJ ziV zcN;rw[Bool.eq_iff_iff];simp only[Bool.or_eq_true,Bool.and_eq_true,Bool.not_eq_true',decide_eq_true_eq,Bool.or_eq_false_iff,Bool.and_eq_false_iff,decide_eq_false_iff_not,Bool.not_eq_false'];omega
 simp only[zeX]
 congr 1
 unfold zbe
 cases s with
 |nil=>rfl
 |cons x l =>
  unfold allI;rw[allI_all (p:=zkJ) l 1 (fun j x hj=>by rw[decide_eq_false (by omega)];cases zkJ x <;> rfl),List.all_cons];simp only[List.getD_cons_zero]
  cases zkJ x <;> cases ziV x <;> cases l.all zkJ <;> simp
def valB(c:UInt8):Bool:=decide (32≤(c.toNat:Int))&&decide ((c.toNat:Int)≤126)
def zcP(s:Str):Bool:=s.all valB&&decide ((s.length:Int)≤1000)
theorem zhr(s:Str):zfl s=some (zcP s):=by
 unfold zfl;simp only[zaw];refine(zc4 (z:=false) valB (fun i c nx k=>?_) _ _ _).trans ?_
 ·rw[zmR]
  congr 1
  unfold valB;rw[Bool.eq_iff_iff];simp only[Bool.or_eq_true,Bool.and_eq_true,Bool.not_eq_true',decide_eq_true_eq,Bool.or_eq_false_iff,Bool.and_eq_false_iff,decide_eq_false_iff_not,Bool.not_eq_false'];omega
 ·simp only[zeX]
  unfold zcP
  cases s.all valB <;> rfl
theorem zfA(s:Str):zd4 s=some (zcP s):=by
 unfold zd4 zgo;simp only[zaw];rw[zc4 valB (fun i x nx k=>by unfold zeN valB;simp only[zf];rw[zmR,Bool.not_not])];simp only[zeX,zad];unfold zcP
 cases s with
 |nil=>rfl
 |cons x l=>simp only[show decide (x::l=[])=false from rfl,Bool.not_false,Bool.true_and,cond_true,Bool.false_or];cases List.all (x::l) valB <;> rfl
def partB(c:UInt8):Bool:=((((ziV c||(decide (65≤(c.toNat:Int))&&decide ((c.toNat:Int)≤90)))||zcN c)||decide ((c.toNat:Int)=45))||decide ((c.toNat:Int)=46))||decide ((c.toNat:Int)=95)
def zi3(s:Str):Bool:=((s.all partB&&(!decide (s=[])&&decide ((s.length:Int)≤40)))&&!decide (s=[46]))&&!decide (s=[46,46])
theorem R_isPart_eq(s:Str):zjy s=some (zi3 s):=by
 unfold zjy;simp only[zaw];refine(zc4 (z:=false) partB (fun i c nx k=>?_) _ _ _).trans ?_
 ·rw[zmR]
  congr 1
  unfold partB ziV zcN;rw[Bool.eq_iff_iff];simp only[Bool.or_eq_true,Bool.and_eq_true,Bool.not_eq_true',decide_eq_true_eq,Bool.or_eq_false_iff,Bool.and_eq_false_iff,decide_eq_false_iff_not,Bool.not_eq_false'];omega
 ·simp only[zeX]
  unfold zi3
  cases s.all partB <;> rfl
theorem orG3(a b d:Bool):((a||b)||bif !(a||b)then d else false)=((a||b)||d):=by cases a <;> cases b <;> rfl
theorem znG(s:Str):zfL s=some (zi3 s):=by
 unfold zfL zgn;simp only[zaw]
 rw[zc4 partB (fun i x nx k=>by
  unfold zfs partB zcm zd3 ziV zcN;simp only[zf,zad,orG3]
  rw[zmR,Bool.not_not])]
 simp only[zeX,zf];unfold zi3
 cases s.all partB <;> rfl
def zbz(s:Str):Bool:=(zG 47 s).all zi3&&decide ((s.length:Int)≤200)
theorem zfm(s:Str)(hs:s.length≤17179869184):zeY s=some (zbz s):=by
 unfold zeY zbz;simp only[zaw,ziU s 47 hs,zf];rw[zc4 zi3 (fun i x nx k=>by rw[R_isPart_eq,zf,zmR,Bool.not_not])]
 cases (zG 47 s).all zi3 <;> rfl
theorem zeO(s:Str)(hs:s.length≤17179869184):zd5 s=some (zbz s):=by
 unfold zd5 zbz;simp only[zaw,ziU s 47 hs,zf];rw[zc4 zi3 (fun i x nx k=>by rw[znG,zf,zmR,Bool.not_not])]
 cases (zG 47 s).all zi3 <;> rfl
def strLe(a b:Str):Bool:=zgr a b||decide (a=b)
theorem zjF(b:Bool)(e:Int):zfj b e=some (bif b then e else 0):=by cases b <;> rfl
def or2(a b:Int):Int:=bif !decide (a=0)then a else b
theorem first1(a:Int):zbY [a]=some a:=by
 unfold zbY;simp only[zaw,forL]
 by_cases h:a=0
 ·subst h;rfl
 ·rw[decide_eq_false h];rfl
theorem znk(a:Int)(l:List Int)(r:Int)(h:zbY l=some r):zbY (a::l)=some (or2 a r):=by
 unfold zbY at *;simp only[zaw,forL]at *;unfold or2
 by_cases ha:a=0
 ·subst ha
  simp only[decide_true,Bool.not_true,cond_false];rw[←h]
  have:∀(l:List Int) (i j:Nat),forL l i (fun i_14 e_16 s nx_13 k_12=>bif !decide (e_16=0)then some e_16 else nx_13 ()) () (fun _=>some (0:Int))=forL l j (fun i_14 e_16 s nx_13 k_12=>bif !decide (e_16=0)then some e_16 else nx_13 ()) () (fun _=>some (0:Int)):=by
   intro l
   induction l with
   |nil=>intro i j;rfl
   |cons x l ih=>intro i j;unfold forL;simp only[ih (i+1) (j+1)]
  exact this l _ _
 ·rw[decide_eq_false ha];rfl
theorem zl7(a b:Int):zbY [a,b]=some (or2 a b):=znk a _ _ (first1 b)
theorem first3(a b c:Int):zbY [a,b,c]=some (or2 a (or2 b c)):=znk a _ _ (zl7 b c)
def zkK(s:api_Setting):Int:=bif !zbe s.Key then 5 else bif !zcP s.Value then 2 else 0
def znq(s:api_Setting):Int:=bif !zbz s.Key then 5 else bif !zcP s.Value then 2 else 0
def zdN(f:api_File):Int:=bif !zbz f.Path then 5 else bif decide (65536<(f.Data.length:Int))then 4 else 0
def zoz(s:api_Service):Int:=bif !zbe s.Name||!zbz s.Path then 5 else 0
def ord(i:Nat)(a last:Str):Bool:=decide (0<(i:Int))&&strLe a last
def zb8{α:Type}(e:α→Int)(nm:α→Str):Nat→Str→List α→Int
 |_,_,[]=>0
 |i,last,x::l=>bif !decide (e x=0)then e x else bif ord i (nm x) last then 7 else zb8 e nm (i+1) (nm x) l
theorem zgD{α:Type}(e:α→Int)(nm:α→Str)(a b:Str)(l:List α):zb8 e nm 0 a l=zb8 e nm 0 b l:=by
 cases l <;> rfl
section
variable {Z α:Type} {e:α→Int} {nm:α→Str}
theorem loopR{f:Nat→α→Str→(Str→Option Int)→(Str→Option Int)→Option Int}{K:Str→Option Int}(P:α→Prop)
  (hf:∀i x last nx k,P x→f i x last nx k=bif !decide (or2 (e x) (bif ord i (nm x) last then 7 else 0)=0)then some (or2 (e x) (bif ord i (nm x) last then 7 else 0))else nx (nm x)) :
  ∀(l:List α) (i:Nat) (last:Str),(∀x∈l,P x)→∃last',forL l i f last K=bif !decide (zb8 e nm i last l=0)then some (zb8 e nm i last l)else K last'
 |[],i,last,_=>⟨last,rfl⟩
 |x::l,i,last,hp=>by
  obtain⟨last',h⟩:=loopR P hf l (i+1) (nm x) (fun y hy=>hp y (List.mem_cons_of_mem _ hy));refine⟨last',?_⟩;unfold forL zb8;rw[hf _ _ _ _ _ (hp x (List.mem_cons_self ..)),h];unfold or2
  by_cases h1:e x=0
  ·simp only[h1,decide_true,Bool.not_true,cond_false]
   cases ord i (nm x) last <;> rfl
  ·simp only[decide_eq_false h1,Bool.not_false,cond_true]
theorem loopD{f:Nat→α→Unit→(Unit→Option Int)→(Unit→Option Int)→Option Int}{K:Unit→Option Int}(P:α→Prop)(L:List α)(d:α)
  (hf:∀(i:Nat) x nx k,P x→i<L.length→f i x () nx k=bif !decide (e x=0)then some (e x)else bif ord i (nm x) (nm (L.getD (i-1) d))then some 7 else nx ()) :
  ∀(l:List α) (i:Nat),L.drop i=l→(∀x∈l,P x)→forL l i f () K=bif !decide (zb8 e nm i (nm (L.getD (i-1) d)) l=0)then some (zb8 e nm i (nm (L.getD (i-1) d)) l)else K ()
 |[],i,_,_=>rfl
 |x::l,i,hd,hp=>by
  have hi:i<L.length:=by
   rcases Nat.lt_or_ge i L.length with h|h
   ·exact h
   ·rw[List.drop_eq_nil_of_le h]at hd;cases hd
  have hx:L.getD i d=x:=by
   have:=List.drop_eq_getElem_cons hi;rw[hd]at this;have:=(List.cons.inj this).1
   rw[this];simp[hi]
  have hd':L.drop (i+1)=l:=by
   have:=congrArg List.tail hd
   simpa using this
  unfold forL zb8;rw[hf _ _ _ _ (hp x (List.mem_cons_self ..)) hi,loopD P L d hf l (i+1) hd' (fun y hy=>hp y (List.mem_cons_of_mem _ hy))];simp only[Nat.add_sub_cancel,hx]
  by_cases h1:e x=0
  ·simp only[h1,decide_true,Bool.not_true,cond_false]
   cases ord i (nm x) (nm (L.getD (i-1) d)) <;> rfl
  ·simp only[decide_eq_false h1,Bool.not_false,cond_true]
end
theorem zoG(i:Nat)(s last:Str):zbR (i:Int) s last=some ((bif ord i s last then 7 else 0),s):=by
 unfold zbR
 rw[zjF,zf];rfl
def Sm(s:Str):Prop:=s.length≤17179869184
theorem zia(f:api_File)(h:Sm f.Path):zel f=some (zdN f):=by
 unfold zel;rw[zfm _ h];simp only[zf,zjF,zl7];unfold zdN or2
 cases zbz f.Path <;> rfl
theorem zge(f:api_Setting)(h:Sm f.Key):zca f=some (znq f):=by
 unfold zca;rw[zfm _ h,zhr];simp only[zf,zjF,zl7];unfold znq or2
 cases zbz f.Key <;> rfl
theorem zgf(f:api_Service)(h:Sm f.Path):zcb f=some (zoz f):=by
 unfold zcb;rw[zfm _ h,zdb];simp only[zf,zad,zjF];unfold zoz
 cases zbe f.Name <;> cases zbz f.Path <;> rfl
theorem zfJ(f:api_File)(h:Sm f.Path):za5 f=some (zdN f):=by
 unfold za5;rw[zeO _ h];simp only[zf];unfold zdN;cases zbz f.Path
 ·rfl
 ·simp only[Bool.not_true,cond_false,zeX]
theorem D_set_eq(f:api_Setting)(h:Sm f.Key):zeE f=some (znq f):=by
 unfold zeE zah;rw[zeO _ h,zfA];simp only[zf];unfold znq
 cases zbz f.Key <;> cases zcP f.Value <;> rfl
theorem D_fact_eq(f:api_Setting):zeF f=some (zkK f):=by
 unfold zeF zbE;rw[zdu,zfA];simp only[zf];unfold zkK
 cases zbe f.Key <;> cases zcP f.Value <;> rfl
theorem D_svc_eq(f:api_Service)(h:Sm f.Path):zbb f=some (zoz f):=by
 unfold zbb;rw[zeO _ h,zdu];simp only[zf,zad];unfold zoz
 cases zbe f.Name <;> cases zbz f.Path <;> rfl
theorem zla{i:Nat}(h:0<i)(h2:i≤274877906944):IntKind.i64.wrap ((i:Int)-1)=((i-1:Nat):Int):=by rw[zdq (by omega) (by omega)];omega
theorem ordE{i:Nat}{a b:Str}:(decide (0<(i:Int))&&(zgr a b||decide (a=b)))=ord i a b:=rfl
theorem eachSet1(l:List api_Setting)(hl:l.length≤17179869184):zaf l=some (zb8 zkK (·.Key) 0 [] l):=by
 unfold zaf;simp only[zaw]
 rw[loopD (e:=zkK) (nm:=(·.Key)) (fun _=>True) l ⟨[],[]⟩ (fun i x nx k _ hi=>by
  rw[D_fact_eq];simp only[zf,zdl,zad]
  cases hg:decide (0<(i:Int))with
  |false=>rw[zg (by intro h;cases h)];unfold ord;rw[hg];rfl
  |true =>
   have hi0:0<i:=by simpa using hg
   rw[zla hi0 (by omega),zg (by intro _;omega)];simp only[cond_true,Int.toNat_natCast]
   unfold ord strLe;rw[hg]) l 0 rfl (fun _ _=>trivial)]
 rw[zeX];rw[zgD zkK (·.Key) _ []];cases h:decide (zb8 zkK (·.Key) 0 [] l=0)
 ·rfl
 ·rw[of_decide_eq_true h];rfl
theorem eachSet2(l:List api_Setting)(hl:l.length≤17179869184)(hs:∀x∈l,Sm x.Key):zU l=some (zb8 znq (·.Key) 0 [] l):=by
 unfold zU;simp only[zaw]
 rw[loopD (e:=znq) (nm:=(·.Key)) (fun x=>Sm x.Key) l ⟨[],[]⟩ (fun i x nx k hx hi=>by
  rw[D_set_eq _ hx];simp only[zf,zdl,zad]
  cases hg:decide (0<(i:Int))with
  |false=>rw[zg (by intro h;cases h)];unfold ord;rw[hg];rfl
  |true =>
   have hi0:0<i:=by simpa using hg
   rw[zla hi0 (by omega),zg (by intro _;omega)];simp only[cond_true,Int.toNat_natCast]
   unfold ord strLe;rw[hg]) l 0 rfl hs]
 rw[zeX];rw[zgD znq (·.Key) _ []];cases h:decide (zb8 znq (·.Key) 0 [] l=0)
 ·rfl
 ·rw[of_decide_eq_true h];rfl
theorem eachSvc(l:List api_Service)(hl:l.length≤17179869184)(hs:∀x∈l,Sm x.Path):zV l=some (zb8 zoz (·.Name) 0 [] l):=by
 unfold zV;simp only[zaw]
 rw[loopD (e:=zoz) (nm:=(·.Name)) (fun x=>Sm x.Path) l ⟨[],[],false,false⟩ (fun i x nx k hx hi=>by
  rw[D_svc_eq _ hx];simp only[zf,zfe,zad]
  cases hg:decide (0<(i:Int))with
  |false=>rw[zg (by intro h;cases h)];unfold ord;rw[hg];rfl
  |true =>
   have hi0:0<i:=by simpa using hg
   rw[zla hi0 (by omega),zg (by intro _;omega)];simp only[cond_true,Int.toNat_natCast]
   unfold ord strLe;rw[hg]) l 0 rfl hs]
 rw[zeX];rw[zgD zoz (·.Name) _ []];cases h:decide (zb8 zoz (·.Name) 0 [] l=0)
 ·rfl
 ·rw[of_decide_eq_true h];rfl
abbrev Mp:=List (Str×Bool)
def abvQ(m:Mp)(path:Str)(i:Nat)(c:UInt8):Bool:=!(decide ((c.toNat:Int)=47)&&(zu m (path.take i)).getD false)
def abv(m:Mp)(path:Str):Bool:=allI (abvQ m path) 0 path
def zhg:Nat→Str→Mp→List api_File→Int
 |_,_,_,[]=>0
 |i,last,m,x::l=>bif !decide (zdN x=0)then zdN x else bif ord i x.Path last then 7 else bif !abv m x.Path then 11 else zhg (i+1) x.Path (zcy m x.Path true) l
theorem filesE_zero(a b:Str)(m:Mp)(l:List api_File):zhg 0 a m l=zhg 0 b m l:=by cases l <;> rfl
theorem zk9:∀(m:Mp) (k:Str) (v:Bool),(zcy m k v).length≤m.length+1
 |[],k,v=>by simp[zcy]
 |p::m,k,v=>by
  unfold zcy;have:=zk9 m k v
  cases decide (p.1=k) <;> simp <;> omega
theorem above_eq(path:Str)(m:Mp):zcJ path m=some (abv m path):=by
 unfold zcJ;simp only[zaw]
 have hk:∀i:Nat,True:=fun _=>trivial
 have:∀(l:Str) (i:Nat),path.drop i=l→forL l i (fun i_44 c_46 s nx_43 k_42 =>
  chk ((decide ((c_46.toNat:Int)=47))=true→(0≤(i_44:Int)∧(i_44:Int)≤(path.length:Int))) <|
  callG (decide ((c_46.toNat:Int)=47)) (zcw (List.take i_44 path) m) false fun r_48 =>
  bif ((decide ((c_46.toNat:Int)=47))&&(!r_48))then
   some false
  else
  nx_43 ()) () (fun _=>some true)=some (allI (abvQ m path) i l):=by
  intro l
  induction l with
  |nil=>intro i _;rfl
  |cons c l ih =>
   intro i hd
   have hi:i<path.length:=by
    rcases Nat.lt_or_ge i path.length with h|h
    ·exact h
    ·rw[List.drop_eq_nil_of_le h]at hd;cases hd
   unfold forL allI;simp only[ih (i+1) (by have:=congrArg List.tail hd;simpa using this)];rw[zg (by intro _;omega)];simp only[zcw,zhb,zad];unfold abvQ
   cases decide ((c.toNat:Int)=47) <;> cases (zu m (List.take i path)).getD false <;> rfl
 exact this path 0 rfl
theorem znv(path:Str)(m:Mp){f:Int×Int→(Int×Int→Option Int)→(Int×Int→Option Int)→Option Int}{K:Int×Int→Option Int}(hp:path.length≤17179869184)
  (hf:∀(e:Int) (i:Nat) nx,f (e,(i:Int)) nx K=if h:i<path.length then nx ((bif abvQ m path i path[i]then e else 11),((i+1:Nat):Int))else K (e,(i:Int))) :
  ∀(n:Nat) (e:Int) (i:Nat),path.length+1≤n+i→i≤path.length→loopN n f (e,(i:Int)) K=K ((bif allI (abvQ m path) i (path.drop i)then e else 11),(path.length:Int))
 |0,e,i,h1,h2=>by omega
 |n+1,e,i,h1,h2=>by
  unfold loopN;rw[hf]
  by_cases h:i<path.length
  ·rw[dif_pos h,znv path m hp hf n _ (i+1) (by omega) (by omega),List.drop_eq_getElem_cons h]
   rw[show allI (abvQ m path) i (path[i]::path.drop (i+1))=(abvQ m path i path[i]&&allI (abvQ m path) (i+1) (path.drop (i+1)))from rfl]
   cases abvQ m path i path[i] <;> cases allI (abvQ m path) (i+1) (path.drop (i+1)) <;> rfl
  ·have:i=path.length:=by omega
   subst this
   rw[dif_neg h,List.drop_length];rfl
theorem filesR{f:Nat→api_File→Str×Mp→(Str×Mp→Option Int)→(Str×Mp→Option Int)→Option Int}{K:Str×Mp→Option Int}
  (hf:∀(i:Nat) x last (m:Mp) nx,Sm x.Path→m.length+1≤17179869184→f i x (last,m) nx K=bif !decide (zdN x=0)then some (zdN x)else bif ord i x.Path last then some 7 else bif !abv m x.Path then some 11 else nx (x.Path,zcy m x.Path true)) :
  ∀(l:List api_File) (i:Nat) (last:Str) (m:Mp),m.length+l.length≤17179869184→(∀x∈l,Sm x.Path)→∃s',forL l i f (last,m) K=bif !decide (zhg i last m l=0)then some (zhg i last m l)else K s'
 |[],i,last,m,_,_=>⟨(last,m),rfl⟩
 |x::l,i,last,m,hm,hp=>by
  have ha:=zk9 m x.Path true;simp only[List.length_cons]at hm;obtain⟨s',h⟩:=filesR hf l (i+1) x.Path (zcy m x.Path true) (by omega) (fun y hy=>hp y (List.mem_cons_of_mem _ hy));refine⟨s',?_⟩;unfold forL zhg;rw[hf _ _ _ _ _ (hp x (List.mem_cons_self ..)) (by omega),h]
  by_cases h1:zdN x=0
  ·simp only[h1,decide_true,Bool.not_true,cond_false]
   cases ord i x.Path last
   ·cases abv m x.Path <;> rfl
   ·rfl
  ·simp only[decide_eq_false h1,Bool.not_false,cond_true]
def zjt(m:api_Machine):Int :=
 bif ((((decide (100<(m.Facts.length:Int)))||(decide (2000<(m.Files.length:Int))))||(decide (2000<(m.Settings.length:Int))))||(decide (100<(m.Services.length:Int))))then 4 else
 or2 (zb8 zkK (·.Key) 0 [] m.Facts) (or2 (zhg 0 [] [] m.Files) (or2 (zb8 znq (·.Key) 0 [] m.Settings) (zb8 zoz (·.Name) 0 [] m.Services)))
structure Fit(m:api_Machine):Prop where
 facts:m.Facts.length≤17179869184
 files:m.Files.length≤17179869184
 sets:m.Settings.length≤17179869184
 svcs:m.Services.length≤17179869184
 fp:∀x∈m.Files,Sm x.Path
 sp:∀x∈m.Settings,Sm x.Key
 vp:∀x∈m.Services,Sm x.Path
theorem zi5(a b:Int)(o:Option Int)(h:o=some b):(bif !decide (a=0)then some a else o)=some (or2 a b):=by
 subst h;unfold or2;cases decide (a=0) <;> rfl
theorem zoD(m:api_Machine)(h:Fit m):zf9 m=some (zjt m):=by
 unfold zf9 zjt;generalize ((((decide (100<(m.Facts.length:Int)))||(decide (2000<(m.Files.length:Int))))||(decide (2000<(m.Settings.length:Int))))||(decide (100<(m.Services.length:Int))))=B
 cases B with
 |true=>rfl
 |false =>
  simp only[cond_false];rw[eachSet1 _ h.facts,zf];refine zi5 _ _ _ ?_;simp only[zaw]
  obtain⟨s',hs⟩:=filesR (f:=fun i_47 f_49 s nx_46 k_45 =>
   match s with
   |(before_37,m1_39) =>
    call (za5 f_49) fun r_50 =>
    bif !decide (r_50=0)then
     some r_50
    else
    bif ((decide (0<(i_47:Int)))&&(zgr f_49.Path before_37||decide (f_49.Path=before_37)))then
     some 7
    else
    call (zcJ f_49.Path m1_39) fun r_51 =>
    bif !r_51 then
     some 11
    else
    chk ((zcy m1_39 f_49.Path true).length≤274877906944) <|
    nx_46 (f_49.Path,zcy m1_39 f_49.Path true)) (K:=fun s=>match s with
   |(before_37,m1_39)=>call (zU m.Settings) fun r_28 =>
    bif !decide (r_28=0)then
     some r_28
    else
    call (zV m.Services) fun r_29 =>
    some r_29) (fun i x last mm nx hx hl=>by
    have ha:=zk9 mm x.Path true;simp only[zfJ _ hx,zf,above_eq,ordE]
    rw[zg (by omega)]) m.Files 0 [] [] (by simpa using h.files) h.fp
  rw[hs];refine zi5 _ _ _ ?_;obtain⟨x,y⟩:=s';simp only[eachSet2 _ h.sets h.sp,eachSvc _ h.svcs h.vp,zf];exact zi5 _ _ _ rfl
theorem zod{α:Type}{e:α→Int}{nm:α→Str}{f:Nat→α→Str→(Str→Option Int)→(Str→Option Int)→Option Int}{K:Str→Option Int}{r:Int}{l:List α}{last:Str}(P:α→Prop)
  (hf:∀i x last nx k,P x→f i x last nx k=bif !decide (or2 (e x) (bif ord i (nm x) last then 7 else 0)=0)then some (or2 (e x) (bif ord i (nm x) last then 7 else 0))else nx (nm x))
  (hp:∀x∈l,P x) (hK:∀last,K last=some r):forL l 0 f last K=some (or2 (zb8 e nm 0 [] l) r):=by
 obtain⟨last',h⟩:=loopR (K:=K) P hf l 0 last hp;rw[h,zgD e nm last []];exact zi5 _ _ _ (hK _)
theorem filesR_or{f:Nat→api_File→Str×Mp→(Str×Mp→Option Int)→(Str×Mp→Option Int)→Option Int}{K:Str×Mp→Option Int}{r:Int}{l:List api_File}{last:Str}
  (hf:∀(i:Nat) x last (m:Mp) nx,Sm x.Path→m.length+1≤17179869184→f i x (last,m) nx K=bif !decide (zdN x=0)then some (zdN x)else bif ord i x.Path last then some 7 else bif !abv m x.Path then some 11 else nx (x.Path,zcy m x.Path true))
  (hl:l.length≤17179869184) (hp:∀x∈l,Sm x.Path) (hK:∀s,K s=some r):forL l 0 f (last,[]) K=some (or2 (zhg 0 [] [] l) r):=by
 obtain⟨s',h⟩:=filesR (K:=K) hf l 0 last [] (by simpa using hl) hp;rw[h,filesE_zero last []];exact zi5 _ _ _ (hK _)
theorem behind_or(path:Str)(m:Mp){f:Int×Int→(Int×Int→Option Int)→(Int×Int→Option Int)→Option Int}{K:Int×Int→Option Int}{N:Nat}{e:Int}(hN:1099511627776≤N)(hp:path.length≤17179869184)
  (hf:∀(e:Int) (i:Nat) nx,f (e,(i:Int)) nx K=if h:i<path.length then nx ((bif abvQ m path i path[i]then e else 11),((i+1:Nat):Int))else K (e,(i:Int))) :
  loopN N f (e,0) K=K ((bif abv m path then e else 11),(path.length:Int)) :=
 znv path m hp hf N e 0 (by omega) (by omega)
theorem znB(m:api_Machine)(h:Fit m):zkd m=some (zjt m):=by
 unfold zkd zjt;generalize ((((decide (100<(m.Facts.length:Int)))||(decide (2000<(m.Files.length:Int))))||(decide (2000<(m.Settings.length:Int))))||(decide (100<(m.Services.length:Int))))=B;obtain⟨N,hN⟩:∃N,zib=N:=⟨_,rfl⟩;have hN2:1099511627776≤N:=hN ▸ zgC;rw[hN];clear hN
 cases B with
 |true=>rfl
 |false =>
  simp only[cond_false,zaw]
  refine zod (e:=zkK) (nm:=(·.Key)) (fun _=>True) (fun i x last nx k _=>?_) (fun _ _=>trivial) fun last=>?_
  ·simp only[zdb,zhr,zf,zjF,zoG,first3]
   unfold zkK or2
   cases zbe x.Key <;> cases zcP x.Value <;> cases ord i x.Key last <;> rfl
  refine filesR_or (fun i x last mm nx hx hl=>?_) h.files h.fp fun s=>?_
  ·have ha:=zk9 mm x.Path true
   simp only[zia _ hx,zf,zoG,zl7]
   by_cases h1:zdN x=0
   ·cases ho:ord i x.Path last with
    |true=>simp only[h1,cond_true,show or2 0 7=7 from rfl];rfl
    |false =>
     simp only[h1,cond_false,show or2 0 0=0 from rfl,decide_true,Bool.not_true,cond_true];rw[behind_or x.Path mm hN2 hx (fun e i nx=>?_)]
     ·rw[zg (by omega)]
      cases abv mm x.Path <;> rfl
     ·simp only[zhb]
      by_cases hi:i<x.Path.length
      ·rw[dif_pos hi,decide_eq_true (by omega),cond_true,zeI hi,zg (by intro _;omega)]
       have hw:IntKind.i64.wrap ((i:Int)+1)=((i+1:Nat):Int):=by
        have:x.Path.length≤17179869184:=hx
        rw[zdq (by omega) (by omega)];rfl
       simp only[hw,Int.toNat_natCast];unfold abvQ
       cases decide (((x.Path[i]).toNat:Int)=47)&&(zu mm (List.take i x.Path)).getD false <;> rfl
      ·rw[dif_neg hi,decide_eq_false (by omega),cond_false]
   ·have:or2 (zdN x) (bif ord i x.Path last then 7 else 0)=zdN x:=by unfold or2;rw[decide_eq_false h1];rfl
    simp only[this,decide_eq_false h1,Bool.not_false,cond_true,cond_false]
  obtain⟨last,mm⟩:=s
  refine zod (e:=znq) (nm:=(·.Key)) (fun x=>Sm x.Key) (fun i x last nx k hx=>?_) h.sp fun last=>?_
  ·simp only[zge _ hx,zf,zoG,zl7]
  rw[show zb8 zoz (fun x=>x.Name) 0 [] m.Services=or2 (zb8 zoz (fun x=>x.Name) 0 [] m.Services) 0 by unfold or2;cases hh:decide (zb8 zoz (fun x=>x.Name) 0 [] m.Services=0) <;> simp_all]
  refine zod (e:=zoz) (nm:=(·.Name)) (fun x=>Sm x.Path) (fun i x last nx k hx=>?_) h.vp fun last=>rfl
  simp only[zgf _ hx,zf,zoG,zl7]
abbrev wFact:Str:=[102,97,99,116]
abbrev wSet:Str:=[115,101,116]
abbrev wFile:Str:=[102,105,108,101]
abbrev wRun:Str:=[114,117,110]
abbrev wPut:Str:=[112,117,116]
abbrev zc6:Str:=[112,117,116,114,117,110]
abbrev zcD:Str:=[115,101,114,118,105,99,101]
abbrev zd2:Str:=[114,101,109,111,118,101]
abbrev zfK:Str:=[117,110,115,101,116]
abbrev zjG:Str:=[100,114,111,112]
def zaQ:api_File:=⟨[],[],false⟩
def zeg:api_Setting:=⟨[],[]⟩
def zcf:api_Service:=⟨[],[],false,false⟩
def bitS(s:Str):Bool:=decide (s=([48]:Str))||decide (s=([49]:Str))
def svc3(k:Str):List Str→Option api_Service
 |[a,b,c]=>bif (decide (a=[])||!bitS b)||!bitS c then none else some ⟨k,a,decide (b=([49]:Str)),decide (c=([49]:Str))⟩
 |_=>none
def zdt(l:Str):Str:=(zX 32 l).1
def zaX(l:Str):Str:=(zX 32 l).2.1
def zbM(l:Str):Str:=(zX 32 (zaX l)).1
def za8(l:Str):Str:=(zX 32 (zaX l)).2.1
def zce(l:Str):Bool:=(zX 32 (zaX l)).2.2
def zd8(l:Str):disk_line×Bool :=
 let w:=zdt l;let k:=zbM l;let u:=zkA (za8 l)
 bif !(zX 32 l).2.2||decide (k=[])then(⟨[],zaQ,zeg,zcf⟩,false)else
 bif decide (w=wFact)||decide (w=wSet)then(⟨w,zaQ,⟨k,u.1⟩,zcf⟩,zce l&&decide (u.2=0))else
 bif ((decide (w=wFile)||decide (w=wRun))||decide (w=wPut))||decide (w=zc6)then(⟨w,⟨k,u.1,decide (w=wRun)||decide (w=zc6)⟩,zeg,zcf⟩,zce l&&decide (u.2=0))else
 bif decide (w=zcD)then(match zce l,svc3 k (zG 32 (za8 l))with
  |true,some s=>(⟨w,zaQ,zeg,s⟩,true)
  |_,_=>(⟨[],zaQ,zeg,zcf⟩,false))else
 bif decide (w=zd2)then(⟨w,⟨k,[],false⟩,zeg,zcf⟩,!zce l)else
 bif decide (w=zfK)then(⟨w,zaQ,⟨k,[]⟩,zcf⟩,!zce l)else
 bif decide (w=zjG)then(⟨w,zaQ,zeg,⟨k,[],false,false⟩⟩,!zce l)else
 (⟨w,zaQ,zeg,zcf⟩,!zce l)
theorem len3{p:List Str}(h:p.length=3):∃a b c,p=[a,b,c]:=by
 rcases p with _|⟨a,_|⟨b,_|⟨c,_|⟨d,p⟩⟩⟩⟩ <;> simp at h
 exact⟨a,b,c,rfl⟩
theorem readLine_eq(l:Str)(hl:l.length≤17179869184):zcI l=some (zd8 l):=by
 have h1:=zcx 32 l;have h2:=zcx 32 (zaX l);unfold zcI;rw[cut_eq l 32 (by omega),zf,cut_eq _ 32 (by omega),zf];rw[show(zX 32 l).1=zdt l from rfl,show(zX 32 l).2.1=zaX l from rfl]at *;rw[show(zX 32 (zaX l)).1=zbM l from rfl,show(zX 32 (zaX l)).2.1=za8 l from rfl,show(zX 32 (zaX l)).2.2=zce l from rfl]at *;unfold zd8
 have hv:(za8 l).length≤17179869184:=by omega
 simp only[zme _ hv,ziU _ 32 hv,zf,zaw];generalize zdt l=w;generalize zbM l=k;generalize za8 l=v;generalize zce l=two;cases (!(zX 32 l).2.2||decide (k=[]))
 rotate_left
 ·rfl
 simp only[cond_false];cases e1:decide (w=wFact)
 rotate_left
 ·rfl
 simp only[cond_false,Bool.false_or];cases e2:decide (w=wSet)
 rotate_left
 ·rfl
 simp only[cond_false];cases e3:decide (w=wFile)
 rotate_left
 ·simp only[cond_true,Bool.true_or];rfl
 simp only[cond_false,Bool.false_or];cases e4:decide (w=wRun)
 rotate_left
 ·simp only[cond_true,Bool.true_or];rfl
 simp only[cond_false,Bool.false_or];cases e5:decide (w=wPut)
 rotate_left
 ·simp only[cond_true,Bool.true_or];rfl
 simp only[cond_false,Bool.false_or];cases e6:decide (w=zc6)
 rotate_left
 ·simp only[cond_true];rfl
 simp only[cond_false];cases e7:decide (w=zcD)
 rotate_left
 ·simp only[cond_true]
  by_cases h3:(zG 32 v).length=3
  ·obtain⟨a,b,c,hp⟩:=len3 h3
   rw[hp];simp only[zf8,zad];cases two
   ·simp only[Bool.not_false,Bool.true_or,Bool.not_true,cond_true]
    rw[zg (by intro h;cases h),zg (by intro h;cases h),zg (by intro h;cases h)];rfl
   ·rw[zg (by intro _;simp),zg (by intro _;simp),zg (by intro _;simp)]
    simp only[show decide ((([a,b,c]:List Str).length:Int)=3)=true from rfl,Bool.not_true,Bool.or_self,Bool.false_or,show([a,b,c]:List Str).getD 0 []=a from rfl,show([a,b,c]:List Str).getD 1 []=b from rfl,show([a,b,c]:List Str).getD 2 []=c from rfl];simp only[svc3];rw[show(decide (b=([48]:Str))||decide (b=([49]:Str)))=bitS b from rfl,show(decide (c=([48]:Str))||decide (c=([49]:Str)))=bitS c from rfl];cases decide (a=([]:Str))
    ·cases bitS b
     ·rfl
     ·cases bitS c
      ·rfl
      ·simp only[Bool.not_false,Bool.not_true,cond_true,cond_false,Bool.or_self]
       show idx [a,b,c] ((0:Nat):Int) _=_
       rw[zd0 (by simp)]
       show idx [a,b,c] ((1:Nat):Int) _=_
       rw[zd0 (by simp)]
       show idx [a,b,c] ((2:Nat):Int) _=_
       rw[zd0 (by simp)];rfl
    ·rfl
  ·have hd:decide (((zG 32 v).length:Int)=3)=false:=by simp only[decide_eq_false_iff_not];omega
   have hs:svc3 k (zG 32 v)=none:=by
    unfold svc3;split
    ·rename_i h;rw[h]at h3;simp at h3
    ·rfl
   rw[hd,hs];simp only[Bool.not_false,Bool.or_true,Bool.not_true,Bool.true_or,zmi,zad,cond_true,cond_false];rw[zg (by intro h;cases h),zg (by intro h;cases h),zg (by intro h;cases h)]
   cases two <;> rfl
 simp only[cond_false];cases e8:decide (w=zd2)
 rotate_left
 ·rfl
 simp only[cond_false];cases e9:decide (w=zfK)
 rotate_left
 ·rfl
 simp only[cond_false];cases e10:decide (w=zjG)
 rotate_left
 ·rfl
 rfl
def svc4:List Str→Option api_Service
 |n::r=>bif decide (n=[])then none else svc3 n r
 |[]=>none
theorem len4{p:List Str}(h:p.length=4):∃a b c d,p=[a,b,c,d]:=by
 rcases p with _|⟨a,_|⟨b,_|⟨c,_|⟨d,_|⟨e,p⟩⟩⟩⟩⟩ <;> simp at h
 exact⟨a,b,c,d,rfl⟩
def svcR(o:Option api_Service):api_Service×Bool:=match o with
 |some s=>(s,true)
 |none=>(zcf,false)
theorem bit_not(s:Str):(!decide (s=([48]:Str))&&!decide (s=([49]:Str)))=!bitS s:=by
 unfold bitS
 cases decide (s=([48]:Str)) <;> cases decide (s=([49]:Str)) <;> rfl
theorem serviceOf_eq(p:List Str):zfk p=some (svcR (svc4 p)):=by
 unfold zfk
 by_cases h4:p.length=4
 ·obtain⟨a,b,c,d,rfl⟩:=len4 h4
  rw[zg (by intro _;simp),zg (by intro _;simp),zg (by intro _;simp),zg (by intro _;simp),zg (by intro _;simp),zg (by intro _;simp)];rw[show decide ((([a,b,c,d]:List Str).length:Int)=4)=true from rfl];simp only[Bool.not_true,Bool.false_or,show([a,b,c,d]:List Str).getD 0 []=a from rfl,show([a,b,c,d]:List Str).getD 1 []=b from rfl,show([a,b,c,d]:List Str).getD 2 []=c from rfl,show([a,b,c,d]:List Str).getD 3 []=d from rfl,bit_not];simp only[svc4,svc3];cases decide (a=([]:Str))
  ·cases decide (b=([]:Str))
   ·cases bitS c
    ·rfl
    ·cases bitS d
     ·rfl
     ·simp only[Bool.not_true,Bool.or_self,cond_false]
      show idx [a,b,c,d] ((0:Nat):Int) _=_
      rw[zd0 (by simp)]
      show idx [a,b,c,d] ((1:Nat):Int) _=_
      rw[zd0 (by simp)]
      show idx [a,b,c,d] ((2:Nat):Int) _=_
      rw[zd0 (by simp)]
      show idx [a,b,c,d] ((3:Nat):Int) _=_
      rw[zd0 (by simp)];rfl
   ·rfl
  ·rfl
 ·have hd:decide ((p.length:Int)=4)=false:=by simp only[decide_eq_false_iff_not];omega
  rw[hd];simp only[Bool.not_false,Bool.not_true,Bool.true_or,Bool.false_and,cond_true];rw[zg (by intro h;cases h),zg (by intro h;cases h),zg (by intro h;cases h),zg (by intro h;cases h),zg (by intro h;cases h),zg (by intro h;cases h)]
  have:svc4 p=none:=by
   cases p with
   |nil=>rfl
   |cons n r =>
    simp only[svc4];cases decide (n=[])
    ·simp only[cond_false]
     unfold svc3;split
     ·simp at h4
     ·rfl
    ·rfl
  rw[this];rfl
theorem quotedR_eq(s:Str)(hs:s.length≤17179869184):zjx s=some ((zX 32 s).1,(zkA (zX 32 s).2.1).1,((zX 32 s).2.2&&(!decide ((zX 32 s).1=[])))&&decide ((zkA (zX 32 s).2.1).2=0)):=by
 have h1:=zcx 32 s;unfold zjx;rw[cut_eq s 32 (by omega),zf,R_Unquote_eq _ (by omega),zf]
theorem svc4_rest(l:Str):svc4 (zG 32 (zaX l))=bif zce l&&!decide (zbM l=[])then svc3 (zbM l) (zG 32 (za8 l))else none:=by
 rw[zcq];rw[show(zX 32 (zaX l)).1=zbM l from rfl,show(zX 32 (zaX l)).2.1=za8 l from rfl,show(zX 32 (zaX l)).2.2=zce l from rfl];cases zce l
 ·rw[if_neg (by simp)]
  simp only[svc4,Bool.false_and,cond_false]
  cases decide (zaX l=[]) <;> rfl
 ·rw[if_pos rfl]
  simp only[svc4,Bool.true_and]
  cases decide (zbM l=[]) <;> rfl
theorem key_none{l:Str}(h:(zX 32 l).2.2=false):zbM l=[]:=by
 by_cases hm:(32:UInt8)∈l
 ·rw[(zaB hm).1]at h;cases h
 ·unfold zbM zaX
  rw[zbj hm];rfl
theorem svc3_len{k:Str}{p:List Str}{s:api_Service}(h:svc3 k p=some s):∃x∈p,s.Path=x:=by
 unfold svc3 at h;split at h
 ·rename_i a b c
  cases hq:(decide (a=[])||!bitS b)||!bitS c
  ·rw[hq,cond_false]at h
   have:=(Option.some.inj h).symm;exact⟨a,by simp,by rw[this]⟩
  ·rw[hq]at h;cases h
 ·cases h
theorem keyOf_len(l:Str):(zbM l).length≤l.length∧(za8 l).length≤l.length:=by
 have h1:=zcx 32 l;have h2:=zcx 32 (zaX l);have:(zaX l).length≤l.length:=h1.2.1;unfold zbM za8;omega
theorem same_loop{α:Type}(l:List α)(q:α→α→Bool)(hq:∀x,q x x=true):∀(r:List α) (i:Nat),l.drop i=r→forL r i (fun i x (_:Unit) nx (_:Unit→Option Bool)=>idx l (i:Int) fun y=>bif !q x y then some false else nx ()) () (fun _=>some true)=some true
 |[],i,_=>rfl
 |x::r,i,hd=>by
  have hi:i<l.length:=by
   rcases Nat.lt_or_ge i l.length with h|h
   ·exact h
   ·rw[List.drop_eq_nil_of_le h]at hd;cases hd
  have hx:l[i]=x:=by
   have:=List.drop_eq_getElem_cons hi;rw[hd]at this;exact(List.cons.inj this).1.symm
  have hd':l.drop (i+1)=r:=by
   have:=congrArg List.tail hd
   simpa using this
  unfold forL;simp only[zd0 hi,hx,hq,Bool.not_true,cond_false];exact same_loop l q hq r (i+1) hd'
def zmc(c:api_Change):Int :=
 bif decide (c.Kind=1)then zdN c.File else
 bif decide (c.Kind=2)then(bif !zbz c.File.Path then 5 else 0)else
 bif decide (c.Kind=3)then znq c.Setting else
 bif decide (c.Kind=4)then(bif !zbz c.Setting.Key then 5 else 0)else
 bif decide (c.Kind=5)then zoz c.Service else
 bif !zbe c.Service.Name then 5 else 0
def keptC(c:api_Change):api_Change :=
 bif decide (c.Kind=1)then⟨c.Kind,c.File,zeg,zcf⟩else
 bif decide (c.Kind=2)then⟨c.Kind,⟨c.File.Path,[],false⟩,zeg,zcf⟩else
 bif decide (c.Kind=3)then⟨c.Kind,zaQ,c.Setting,zcf⟩else
 bif decide (c.Kind=4)then⟨c.Kind,zaQ,⟨c.Setting.Key,[]⟩,zcf⟩else
 bif decide (c.Kind=5)then⟨c.Kind,zaQ,zeg,c.Service⟩else
 ⟨c.Kind,zaQ,zeg,⟨c.Service.Name,[],false,false⟩⟩
def zkr(c:api_Change):Bool:=decide (1≤c.Kind)&&decide (c.Kind≤6)
def zhh(a b:api_File):Bool:=decide (a.Path=b.Path)&&(decide (a.Data=b.Data)&&decide (a.Runs=b.Runs))
def zmO(a b:api_Setting):Bool:=decide (a.Key=b.Key)&&decide (a.Value=b.Value)
def zl9(a b:api_Service):Bool:=decide (a.Name=b.Name)&&(decide (a.Path=b.Path)&&(decide (a.Auto=b.Auto)&&decide (a.On=b.On)))
def eqC(a b:api_Change):Bool:=(zhh a.File b.File&&(zmO a.Setting b.Setting&&zl9 a.Service b.Service))
theorem eqFile_eq{a b:api_File}(h:zhh a b=true):a=b:=by
 obtain⟨a1,a2,a3⟩:=a;obtain⟨b1,b2,b3⟩:=b;simp only[zhh,Bool.and_eq_true,decide_eq_true_eq]at h
 obtain⟨rfl,rfl,rfl⟩:=h;rfl
theorem eqSet_eq{a b:api_Setting}(h:zmO a b=true):a=b:=by
 obtain⟨a1,a2⟩:=a;obtain⟨b1,b2⟩:=b;simp only[zmO,Bool.and_eq_true,decide_eq_true_eq]at h
 obtain⟨rfl,rfl⟩:=h;rfl
theorem eqSvc_eq{a b:api_Service}(h:zl9 a b=true):a=b:=by
 obtain⟨a1,a2,a3,a4⟩:=a;obtain⟨b1,b2,b3,b4⟩:=b;simp only[zl9,Bool.and_eq_true,decide_eq_true_eq]at h
 obtain⟨rfl,rfl,rfl,rfl⟩:=h;rfl
theorem eqC_eq{a b:api_Change}(hk:a.Kind=b.Kind)(h:eqC a b=true):a=b:=by
 obtain⟨a0,a1,a2,a3⟩:=a;obtain⟨b0,b1,b2,b3⟩:=b;simp only[eqC,Bool.and_eq_true]at h;obtain⟨h1,h2,h3⟩:=h;simp only at hk;rw[hk,eqFile_eq h1,eqSet_eq h2,eqSvc_eq h3]
def eCh(c:api_Change):Int:=bif !zkr c then 1 else bif decide (zmc c=0)&&!eqC c (keptC c)then 2 else zmc c
structure SmC(c:api_Change):Prop where
 fp:Sm c.File.Path
 sp:Sm c.Setting.Key
 vp:Sm c.Service.Path
theorem D_set2(f:api_Setting)(h:Sm f.Key):zah f=some (znq f):=by
 unfold zah;rw[zeO _ h,zfA];simp only[zf];unfold znq
 cases zbz f.Key <;> cases zcP f.Value <;> rfl
theorem value_nil:zcP []=true:=rfl
theorem eFile_nil(p:Str):zdN ⟨p,[],false⟩=bif !zbz p then 5 else 0:=by
 unfold zdN
 cases zbz p <;> rfl
theorem eSet_nil(p:Str):znq ⟨p,[]⟩=bif !zbz p then 5 else 0:=by
 unfold znq;simp only[value_nil]
 cases zbz p <;> rfl
theorem kinds6{n:Int}(h:(decide (1≤n)&&decide (n≤6))=true):n=1∨n=2∨n=3∨n=4∨n=5∨n=6:=by
 simp only[Bool.and_eq_true,decide_eq_true_eq]at h;omega
theorem kinds0{n:Int}(h:(decide (1≤n)&&decide (n≤6))=false):decide (n=1)=false∧decide (n=2)=false∧decide (n=3)=false∧decide (n=4)=false∧decide (n=5)=false∧decide (n=6)=false:=by
 simp only[Bool.and_eq_false_iff,decide_eq_false_iff_not]at h
 refine⟨?_,?_,?_,?_,?_,?_⟩ <;> (simp only[decide_eq_false_iff_not];omega)
theorem D_change_eq(c:api_Change)(h:SmC c):zb9 c=some (eCh c):=by
 unfold zb9 eCh zkr;simp only[zaw];cases hk:decide (1≤c.Kind)&&decide (c.Kind≤6)
 ·obtain⟨h1,h2,h3,h4,h5,h6⟩:=kinds0 hk
  rw[h1,h2,h3,h4,h5,h6];rfl
 ·simp only[Bool.not_true,cond_false]
  rw[zfJ _ h.fp,zfJ _ (show Sm (api_File.mk c.File.Path [] false).Path from h.fp),D_set2 _ h.sp,D_set2 _ (show Sm (api_Setting.mk c.Setting.Key []).Key from h.sp),D_svc_eq _ h.vp,zdu];simp only[zf,eFile_nil,eSet_nil,decide_true,Bool.true_and];unfold zmc keptC
  rcases kinds6 hk with e|e|e|e|e|e
  all_goals
   rw[e]
   simp only[show decide ((1:Int)=1)=true from rfl,show decide ((2:Int)=1)=false from rfl,show decide ((2:Int)=2)=true from rfl,show decide ((3:Int)=1)=false from rfl,show decide ((3:Int)=2)=false from rfl,show decide ((3:Int)=3)=true from rfl,show decide ((4:Int)=1)=false from rfl,show decide ((4:Int)=2)=false from rfl,show decide ((4:Int)=3)=false from rfl,show decide ((4:Int)=4)=true from rfl,
    show decide ((5:Int)=1)=false from rfl,show decide ((5:Int)=2)=false from rfl,show decide ((5:Int)=3)=false from rfl,show decide ((5:Int)=4)=false from rfl,show decide ((5:Int)=5)=true from rfl,show decide ((6:Int)=1)=false from rfl,show decide ((6:Int)=2)=false from rfl,show decide ((6:Int)=3)=false from rfl,show decide ((6:Int)=4)=false from rfl,show decide ((6:Int)=5)=false from rfl,show decide ((6:Int)=6)=true from rfl,decide_true,cond_true,cond_false]
   simp only[zeX,eqC,zhh,zmO,zl9,zaQ,zeg,zcf,decide_true,Bool.true_and,Bool.and_true,Bool.and_assoc]
  ·rfl
  ·rfl
  ·rfl
  ·rfl
  ·rfl
  ·cases zbe c.Service.Name <;> rfl
theorem or2_when(a:Int)(q:Bool):or2 a (bif !q then 2 else 0)=bif decide (a=0)&&!q then 2 else a:=by
 unfold or2
 by_cases h:a=0
 ·subst h;cases q <;> rfl
 ·rw[decide_eq_false h];rfl
theorem zmu(c:api_Change)(h:SmC c):zcL c=some (eCh c):=by
 unfold zcL eCh zkr;simp only[zaw];cases hk:decide (1≤c.Kind)&&decide (c.Kind≤6)
 ·obtain⟨h1,h2,h3,h4,h5,h6⟩:=kinds0 hk
  rw[h1,h2,h3,h4,h5,h6];rfl
 ·simp only[Bool.not_true,cond_false]
  rw[zia _ h.fp,zge _ h.sp,zgf _ h.vp,zdb,zfm _ h.fp,zfm _ h.sp];simp only[zf,zjF,zl7,decide_true,Bool.true_and,or2_when];unfold zmc keptC
  rcases kinds6 hk with e|e|e|e|e|e
  all_goals
   rw[e]
   simp only[show decide ((1:Int)=1)=true from rfl,show decide ((2:Int)=1)=false from rfl,show decide ((2:Int)=2)=true from rfl,show decide ((3:Int)=1)=false from rfl,show decide ((3:Int)=2)=false from rfl,show decide ((3:Int)=3)=true from rfl,show decide ((4:Int)=1)=false from rfl,show decide ((4:Int)=2)=false from rfl,show decide ((4:Int)=3)=false from rfl,show decide ((4:Int)=4)=true from rfl,
    show decide ((5:Int)=1)=false from rfl,show decide ((5:Int)=2)=false from rfl,show decide ((5:Int)=3)=false from rfl,show decide ((5:Int)=4)=false from rfl,show decide ((5:Int)=5)=true from rfl,show decide ((6:Int)=1)=false from rfl,show decide ((6:Int)=2)=false from rfl,show decide ((6:Int)=3)=false from rfl,show decide ((6:Int)=4)=false from rfl,show decide ((6:Int)=5)=false from rfl,show decide ((6:Int)=6)=true from rfl,decide_true,cond_true,cond_false]
   simp only[zeX,eqC,zhh,zmO,zl9,zaQ,zeg,zcf,decide_true,Bool.true_and,Bool.and_true,Bool.and_assoc]
  ·rfl
  ·rfl
  ·rfl
  ·rfl
  ·rfl
  ·rfl
def zfn:List api_Change→Int
 |[]=>0
 |c::l=>bif !decide (eCh c=0)then eCh c else zfn l
theorem D_changes_eq:∀(l:List api_Change),(∀c∈l,SmC c)→zbN l=some (zfn l):=by
 intro l hl;unfold zbN;simp only[zaw];refine zhD (fun i l (_:Unit)=>∀c∈l,SmC c) (fun i l _=>some (zfn l)) (fun i s h=>rfl) (fun i c l s nx h hnx=>?_) l 0 () hl;rw[D_change_eq c (h c (List.mem_cons_self ..)),zf,hnx () (fun d hd=>h d (List.mem_cons_of_mem _ hd))];simp only[zfn,zeX]
theorem zfz:∀(l:List api_Change),(∀c∈l,SmC c)→zcd l=some (zfn l):=by
 intro l hl;unfold zcd;simp only[zaw];refine zhD (fun i l (_:Unit)=>∀c∈l,SmC c) (fun i l _=>some (zfn l)) (fun i s h=>rfl) (fun i c l s nx h hnx=>?_) l 0 () hl;rw[zmu c (h c (List.mem_cons_self ..)),zf,hnx () (fun d hd=>h d (List.mem_cons_of_mem _ hd))];simp only[zfn,zeX]
theorem zmd:∀{l:List api_Change},zfn l=0→∀c∈l,eCh c=0
 |[],_,c,hc=>by cases hc
 |d::l,h,c,hc=>by
  simp only[zfn]at h;cases hd:decide (eCh d=0)
  ·rw[hd]at h
   exact absurd h (of_decide_eq_false hd)
  ·rw[hd]at h
   rcases List.mem_cons.1 hc with rfl|hc
   ·exact of_decide_eq_true hd
   ·exact zmd h c hc
theorem zhF{c:api_Change}(h:eCh c=0):zkr c=true∧zmc c=0∧c=keptC c:=by
 unfold eCh at h;cases hk:zkr c
 ·rw[hk]at h;simp at h
 ·rw[hk]at h
  simp only[Bool.not_true,cond_false]at h;cases hq:decide (zmc c=0)&&!eqC c (keptC c)
  ·rw[hq,cond_false]at h
   rw[h]at hq;simp only[decide_true,Bool.true_and,Bool.not_eq_false']at hq;refine⟨rfl,h,eqC_eq ?_ hq⟩;unfold keptC
   cases decide (c.Kind=1) <;> cases decide (c.Kind=2) <;> cases decide (c.Kind=3) <;> cases decide (c.Kind=4) <;> cases decide (c.Kind=5) <;> rfl
  ·rw[hq]at h;simp at h
def bitW(b:Bool):Str:=bif b then [49]else [48]
theorem R_bit_eq(b:Bool):R_bit b=some (bitW b):=by cases b <;> rfl
theorem zhI(b:Bool):(bitW b).length=1:=by cases b <;> rfl
def fileW(w:Str)(f:api_File):Str:=w++32::(f.Path++32::ze4 f.Data)
def setW(s:api_Setting):Str:=wSet++32::(s.Key++32::ze4 s.Value)
def svcW(s:api_Service):Str:=zcD++32::(s.Name++32::(s.Path++32::(bitW s.Auto++32::bitW s.On)))
def zmL(c:api_Change):Str :=
 bif decide (c.Kind=1)then fileW (bif c.File.Runs then zc6 else wPut) c.File else
 bif decide (c.Kind=2)then zd2++32::c.File.Path else
 bif decide (c.Kind=3)then setW c.Setting else
 bif decide (c.Kind=4)then zfK++32::c.Setting.Key else
 bif decide (c.Kind=5)then svcW c.Service else
 zjG++32::c.Service.Name
def zb1(l:List api_Change):Str:=l.flatMap fun c=>zmL c++[10]
theorem zgt(c:api_Change)(l:List api_Change):zb1 (c::l)=zmL c++[10]++zb1 l:=by simp[zb1]
theorem copy_np(o:Str):zaC o=some ():=rfl
theorem zem(s o:Str)(h:(o++s).length≤274877906944):zi s o=some ((s.length:Int),o++s):=by
 unfold zi;rw[copy_np,zf,zg h]
theorem writeB_eq(c:Int)(o:Str)(h:o.length<274877906944):zY c o=some (o++[UInt8.ofNat c.toNat]):=by
 unfold zY;rw[copy_np,zf,zg (by simp[Go.Vc.strOf];omega)];rfl
theorem string_eq(o:Str):zC o=some o:=rfl
theorem zlv(s:api_Service)(h:(svcW s).length<274877906944):zc1 s=some (s.Name++32::(s.Path++32::(bitW s.Auto++32::bitW s.On))):=by
 unfold zc1;have h1:=zhI s.Auto;have h2:=zhI s.On;simp only[svcW,List.length_append,List.length_cons,List.length_nil,h1,h2]at h;rw[zg (by simp;omega),zg (by simp;omega),zg (by simp;omega),R_bit_eq,zf,zg (by simp;omega),zg (by simp;omega),R_bit_eq,zf,zg (by simp;omega)];simp
structure SmD(c:api_Change):Prop where
 fd:c.File.Data.length≤17179869184
 sv:c.Setting.Value.length≤17179869184
theorem kindLast{n:Int}(h:(decide (1≤n)&&decide (n≤6))=true)(h1:decide (n=1)=false)(h2:decide (n=2)=false)(h3:decide (n=3)=false)(h4:decide (n=4)=false)(h5:decide (n=5)=false):n=6:=by
 simp only[Bool.and_eq_true,decide_eq_true_eq,decide_eq_false_iff_not]at *;omega
theorem zny(l:List api_Change)(hs:∀c∈l,SmD c)(hk:∀c∈l,zkr c=true)(ht:(zb1 l).length≤137438953472):za6 l=some (zb1 l):=by
 unfold za6;simp only[zaw];refine(zhD (fun i r (o:Str)=>o.length+(zb1 r).length≤137438953472∧(∀c∈r,SmD c)∧∀c∈r,zkr c=true) (fun i r o=>some (o++zb1 r)) (fun i o h=>?_) (fun i c r o nx h hnx=>?_) l 0 [] ⟨by simpa using ht,hs,hk⟩).trans ?_
 ·simp only[string_eq,zf,show zb1 []=[]from rfl,List.append_nil]
 ·obtain⟨h,hs,hk⟩:=h
  have hc:=hs c (List.mem_cons_self ..);have hkc:=hk c (List.mem_cons_self ..)
  have hr:∀d∈r,SmD d:=fun d hd=>hs d (List.mem_cons_of_mem _ hd)
  have hkr:∀d∈r,zkr d=true:=fun d hd=>hk d (List.mem_cons_of_mem _ hd)
  have fin:∀(o' w:Str),o'=o++w→o'.length+1+(zb1 r).length≤137438953472→(call (zY 10 o') fun r_283=>nx r_283)=some (o++(w++[10]++zb1 r)):=by
   intro o' w he hl;rw[writeB_eq _ _ (by omega),zf,hnx _ ⟨by simp;omega,hr,hkr⟩,he];simp
  rw[zgt]at h⊢;unfold zmL at h⊢;simp only[List.length_append,List.length_cons,List.length_nil]at h;cases h1:decide (c.Kind=1)
  ·rw[h1]at h
   simp only[cond_false]at h⊢;cases h2:decide (c.Kind=2)
   ·rw[h2]at h
    simp only[cond_false]at h⊢;cases h3:decide (c.Kind=3)
    ·rw[h3]at h
     simp only[cond_false]at h⊢;cases h4:decide (c.Kind=4)
     ·rw[h4]at h
      simp only[cond_false]at h⊢;cases h5:decide (c.Kind=5)
      ·rw[h5]at h
       have h6:=kindLast hkc h1 h2 h3 h4 h5;rw[decide_eq_true h6];simp only[cond_false,cond_true,List.length_append,List.length_cons,List.length_nil]at h⊢;rw[zg (by simp;omega),zem _ _ (by simp;omega),zf];exact fin _ _ (by simp) (by simp;omega)
      ·rw[h5]at h
       simp only[cond_true]at h⊢;rw[zlv _ (by omega),zf];simp only[svcW,List.length_append,List.length_cons,List.length_nil]at h;rw[zg (by simp;omega),zem _ _ (by simp;omega),zf];exact fin _ _ (by simp[svcW]) (by simp;omega)
     ·rw[h4]at h
      simp only[cond_true,List.length_append,List.length_cons,List.length_nil]at h⊢;rw[zg (by simp;omega),zem _ _ (by simp;omega),zf];exact fin _ _ (by simp) (by simp;omega)
    ·rw[h3]at h
     simp only[cond_true,setW,List.length_append,List.length_cons,List.length_nil]at h⊢;rw[zg (by simp;omega),zg (by simp;omega),zhK _ hc.sv,zf,zg (by simp;omega),zem _ _ (by simp;omega),zf];exact fin _ _ (by simp) (by simp;omega)
   ·rw[h2]at h
    simp only[cond_true,List.length_append,List.length_cons,List.length_nil]at h⊢;rw[zg (by simp;omega),zem _ _ (by simp;omega),zf];exact fin _ _ (by simp) (by simp;omega)
  ·rw[h1]at h
   simp only[cond_true]at h⊢;cases hr':c.File.Runs
   ·rw[hr']at h
    simp only[cond_false,fileW,List.length_append,List.length_cons,List.length_nil]at h⊢;rw[zg (by simp;omega),zg (by simp;omega),zhK _ hc.fd,zf,zg (by simp;omega),zem _ _ (by simp;omega),zf];exact fin _ _ (by simp) (by simp;omega)
   ·rw[hr']at h
    simp only[cond_true,fileW,List.length_append,List.length_cons,List.length_nil]at h⊢;rw[zg (by simp;omega),zg (by simp;omega),zhK _ hc.fd,zf,zg (by simp;omega),zem _ _ (by simp;omega),zf];exact fin _ _ (by simp) (by simp;omega)
 ·rfl
def zmM(w:Str):Int:=bif decide (w=wPut)||decide (w=zc6)then 1 else bif decide (w=zd2)then 2 else bif decide (w=wSet)then 3 else bif decide (w=zfK)then 4 else bif decide (w=zcD)then 5 else bif decide (w=zjG)then 6 else 0
theorem kind_eq(w:Str):zcv w=some (zmM w):=by
 unfold zcv zmM;simp only[zaw];cases decide (w=wPut)
 ·cases decide (w=zc6)
  ·cases decide (w=zd2)
   ·cases decide (w=wSet)
    ·cases decide (w=zfK)
     ·cases decide (w=zcD)
      ·cases decide (w=zjG) <;> rfl
      ·rfl
     ·rfl
    ·rfl
   ·rfl
  ·rfl
 ·rfl
def chD(l:Str):api_Change:=⟨zmM (zd8 l).1.word,(zd8 l).1.file,(zd8 l).1.setting,(zd8 l).1.service⟩
def okD(l:Str):Bool:=(zd8 l).2&&!decide (zmM (zd8 l).1.word=0)
def ziT(l:Str):Option api_Change:=bif okD l then some (chD l)else none
theorem parseC1_eq(x:disk_line)(o:List api_Change)(h:o.length<274877906944):zas x o=some (!decide (zmM x.word=0),o++[⟨zmM x.word,x.file,x.setting,x.service⟩]):=by
 unfold zas;rw[kind_eq,zf,zg (by simp;omega)]
theorem rest_two(l:Str)(h:zce l=false):zbM l=zaX l:=by
 unfold zbM zce at *
 by_cases hm:(32:UInt8)∈zaX l
 ·rw[(zaB hm).1]at h;cases h
 ·rw[zbj hm]
theorem rest_has(l:Str):decide (0≤ixb (zaX l) 32)=zce l:=by
 unfold zce
 by_cases hm:(32:UInt8)∈zaX l
 ·rw[(zaB hm).1,zk2 hm]
  simp only[decide_eq_true_eq];omega
 ·rw[zbj hm,ixb_none hm];rfl
theorem contains_eq(s:Str)(c:UInt8):zbZ s [c]=some (decide (0≤ixb s c)):=by
 unfold zbZ;rw[zjm,zf]
theorem rest_ne{l:Str}(h:zaX l≠[]):(zX 32 l).2.2=true:=by
 by_cases hm:(32:UInt8)∈l
 ·exact(zaB hm).1
 ·unfold zaX at h
  rw[zbj hm]at h;exact absurd rfl h
theorem key_rest(l:Str)(h:zaX l=[]):zbM l=[]:=by
 unfold zbM
 rw[h];rfl
theorem words(w:Str):w=wPut∨w=zc6∨w=zd2∨w=wSet∨w=zfK∨w=zcD∨w=zjG∨w=wFact∨w=wFile∨w=wRun ∨
  (decide (w=wPut)=false∧decide (w=zc6)=false∧decide (w=zd2)=false∧decide (w=wSet)=false∧decide (w=zfK)=false∧decide (w=zcD)=false∧decide (w=zjG)=false∧decide (w=wFact)=false∧decide (w=wFile)=false∧decide (w=wRun)=false):=by
 by_cases h1:w=wPut
 ·exact .inl h1
 by_cases h2:w=zc6
 ·exact .inr (.inl h2)
 by_cases h3:w=zd2
 ·exact .inr (.inr (.inl h3))
 by_cases h4:w=wSet
 ·exact .inr (.inr (.inr (.inl h4)))
 by_cases h5:w=zfK
 ·exact .inr (.inr (.inr (.inr (.inl h5))))
 by_cases h6:w=zcD
 ·exact .inr (.inr (.inr (.inr (.inr (.inl h6)))))
 by_cases h7:w=zjG
 ·exact .inr (.inr (.inr (.inr (.inr (.inr (.inl h7))))))
 by_cases h8:w=wFact
 ·exact .inr (.inr (.inr (.inr (.inr (.inr (.inr (.inl h8)))))))
 by_cases h9:w=wFile
 ·exact .inr (.inr (.inr (.inr (.inr (.inr (.inr (.inr (.inl h9))))))))
 by_cases h10:w=wRun
 ·exact .inr (.inr (.inr (.inr (.inr (.inr (.inr (.inr (.inr (.inl h10)))))))))
 exact .inr (.inr (.inr (.inr (.inr (.inr (.inr (.inr (.inr (.inr ⟨decide_eq_false h1,decide_eq_false h2,decide_eq_false h3,decide_eq_false h4,decide_eq_false h5,decide_eq_false h6,decide_eq_false h7,decide_eq_false h8,decide_eq_false h9,decide_eq_false h10⟩)))))))))
theorem changeOf_eq(l:Str)(hl:l.length≤17179869184):∃c,zgh l=some (c,okD l)∧(okD l=true→c=chD l):=by
 have h1:=zcx 32 l;unfold zgh;rw[cut_eq l 32 (by omega),zf,show(zX 32 l).1=zdt l from rfl,show(zX 32 l).2.1=zaX l from rfl];rw[show(zX 32 l).2.1=zaX l from rfl]at h1;rw[quotedR_eq _ (by omega),zf,contains_eq,zad,rest_has,ziU _ 32 (by omega)];simp only[zf];rw[serviceOf_eq,svc4_rest];rw[show(zX 32 (zaX l)).1=zbM l from rfl,show(zX 32 (zaX l)).2.1=za8 l from rfl,show(zX 32 (zaX l)).2.2=zce l from rfl];simp only[zaw,zf];unfold okD chD zd8;have hkn:=key_none (l:=l);have hrt:=rest_two l;have hrn:=rest_ne (l:=l);have hkr:=key_rest l;generalize (zX 32 l).2.2=one at *;generalize zkA (za8 l)=u;generalize hs3:svc3 (zbM l) (zG 32 (za8 l))=s3;have hs3':svc3 (zbM l) (zG 32 (za8 l))=s3:=hs3;generalize zdt l=w at *;generalize zbM l=k at *;generalize zce l=two at *;generalize zaX l=rest at *;simp only[hs3];cases hpre:(!one||decide (k=[]))
 ·simp only[Bool.or_eq_false_iff,Bool.not_eq_false']at hpre
  obtain⟨rfl,hk⟩:=hpre
  have hrest:decide (rest=[])=false:=by
   simp only[decide_eq_false_iff_not];intro hr;have:=hkr hr
   rw[this]at hk;simp at hk
  rw[hk,hrest];obtain⟨u1,u2⟩:=u;simp only
  rcases words w with rfl|rfl|rfl|rfl|rfl|rfl|rfl|rfl|rfl|rfl|⟨n1,n2,n3,n4,n5,n6,n7,n8,n9,n10⟩
  ·cases two <;> cases decide (u2=0) <;> exact⟨_,rfl,fun _=>rfl⟩
  ·cases two <;> cases decide (u2=0) <;> exact⟨_,rfl,fun _=>rfl⟩
  ·cases two
   ·obtain rfl:=hrt rfl
    exact⟨_,rfl,fun _=>rfl⟩
   ·exact⟨_,rfl,fun h=>by cases h⟩
  ·cases two <;> cases decide (u2=0) <;> exact⟨_,rfl,fun _=>rfl⟩
  ·cases two
   ·obtain rfl:=hrt rfl
    exact⟨_,rfl,fun _=>rfl⟩
   ·exact⟨_,rfl,fun h=>by cases h⟩
  ·cases two
   ·exact⟨_,rfl,fun h=>by cases h⟩
   ·cases s3 with
    |none=>exact⟨_,rfl,fun h=>by cases h⟩
    |some s=>exact⟨_,rfl,fun _=>rfl⟩
  ·cases two
   ·obtain rfl:=hrt rfl
    exact⟨_,rfl,fun _=>rfl⟩
   ·exact⟨_,rfl,fun h=>by cases h⟩
  ·cases two <;> cases decide (u2=0) <;> exact⟨_,rfl,fun h=>by cases h⟩
  ·cases two <;> cases decide (u2=0) <;> exact⟨_,rfl,fun h=>by cases h⟩
  ·cases two <;> cases decide (u2=0) <;> exact⟨_,rfl,fun h=>by cases h⟩
  ·have hkz:zmM w=0:=by
    unfold zmM
    rw[n1,n2,n3,n4,n5,n6,n7];rfl
   simp only[n1,n2,n3,n4,n5,n6,n7,n8,n9,n10,cond_false,Bool.or_self,Bool.not_true,hkz,decide_true,Bool.and_false,Bool.false_eq_true];exact⟨_,rfl,fun h=>h.elim⟩
 ·have hk:decide (k=[])=true:=by
   cases one
   ·rw[hkn rfl];rfl
   ·simpa using hpre
  rw[hk]
  have hr:(!decide (rest=[])&&!bif !decide (rest=[])then two else false)=false:=by
   cases hd:decide (rest=[])
   ·cases two
    ·have:=hrt rfl
     rw[←this,hk]at hd;cases hd
    ·rfl
   ·rfl
  rw[hr];obtain⟨u1,u2⟩:=u;simp only[cond_true,Bool.not_true,Bool.and_false,Bool.false_and,cond_false]
  rcases words w with rfl|rfl|rfl|rfl|rfl|rfl|rfl|rfl|rfl|rfl|⟨n1,n2,n3,n4,n5,n6,n7,n8,n9,n10⟩
  all_goals first|exact⟨_,rfl,fun h=>by cases h⟩|skip
  simp only[n1,n2,n3,n4,n5,n6,n7,n8,n9,n10,zmM];exact⟨_,rfl,fun h=>by cases h⟩
def zg0:Nat→List api_Change→List Str→Nat ⊕ List api_Change
 |_,o,[]=>.inr o
 |n,o,[x]=>bif decide (x=[])then .inr o else .inl n
 |n,o,x::y::r=>match ziT x with
  |none=>.inl n
  |some c=>zg0 (n+1) (o++[c]) (y::r)
theorem zjR(n:Nat)(o:List api_Change)(x:Str)(r:List Str)(hr:r≠[]):zg0 n o (x::r)=match ziT x with
  |none=>.inl n
  |some c=>zg0 (n+1) (o++[c]) r:=by
 cases r with
 |nil=>exact absurd rfl hr
 |cons y r=>simp only[zg0] <;> (cases ziT x <;> rfl)
theorem zhv{l:Str}{c:api_Change}(h:ziT l=some c):okD l=true∧c=chD l:=by
 unfold ziT at h;cases ho:okD l
 ·rw[ho]at h;cases h
 ·rw[ho]at h;exact⟨rfl,(Option.some.inj h).symm⟩
theorem stepC_none{l:Str}(h:ziT l=none):okD l=false:=by
 unfold ziT at h;cases ho:okD l
 ·rfl
 ·rw[ho]at h;cases h
def eachC(p:Nat ⊕ List api_Change)(z:Option (Int×List api_Change)):Prop:=match p with
 |.inl j=>∃q,z=some ((j:Int),q)
 |.inr o=>z=some (-1,o)
theorem eachLineC_eq(text:Str)(ht:text.length≤17179869184):eachC (zg0 0 [] (zG 10 text)) (zbi text []):=by
 unfold zbi;obtain⟨N,hN⟩:∃N,zib=N:=⟨_,rfl⟩;have hN2:1099511627776≤N:=hN ▸ zgC;rw[hN];clear hN;simp only[zaw]
 have key:∀(k:Nat) (N:Nat) (t:Str) (n:Nat) (o:List api_Change),t.length<N→t.length≤k→n+t.length≤text.length→o.length≤n →
   eachC (zg0 n o (zG 10 t)) (loopN N (fun s nx_67 k_66 =>
  match s with
  |(text_60,n_61,o1_62) =>
   bif !decide (text_60=[])then
    call (zbw text_60 ([10]:Str)) fun r_68 =>
    call (zcI r_68.1) fun r_69 =>
    callG (!((!r_68.2.2)||(!r_69.2))) (zas r_69.1 o1_62) (false,o1_62) fun r_70 =>
    bif (((!r_68.2.2)||(!r_69.2))||(!r_70.1))then
     some (n_61,r_70.2)
    else
    nx_67 (r_68.2.1,IntKind.i64.wrap (n_61+1),r_70.2)
   else
   k_66 (text_60,n_61,o1_62)) (t,(n:Int),o) (fun s=>match s with
  |(text_60,n_61,o1_62)=>some (-1,o1_62))):=by
  intro k
  induction k with
  |zero =>
   intro N t n o hN hk hn ho;obtain rfl:t=[]:=List.length_eq_zero_iff.1 (by omega)
   cases N with
   |zero=>simp at hN
   |succ N =>
    unfold loopN;exact rfl
  |succ k ih =>
   intro N t n o hN hk hn ho
   cases N with
   |zero=>simp at hN
   |succ N =>
    unfold loopN
    cases t with
    |nil=>exact rfl
    |cons c t =>
     generalize ht':c::t=t0 at *
     have hne:t0≠[]:=by rw[←ht'];simp
     dsimp +instances only;rw[decide_eq_false hne];simp only[Bool.not_false,cond_true];have h1:=zcx 10 t0;rw[cut_eq t0 10 (by omega),zf,readLine_eq _ (by omega),zf,zcq,parseC1_eq _ _ (by omega),zad];cases hc:(zX 10 t0).2.2
     ·simp only[Bool.not_false,Bool.true_or,Bool.not_true,cond_true,Bool.false_eq_true,if_false]
      rw[show zg0 n o [t0]=.inl n by simp only[zg0,decide_eq_false hne,cond_false]];exact⟨_,rfl⟩
     ·have h3:=h1.2.2 hc
      simp only[Bool.not_true,Bool.false_or,if_true];rw[zjR _ _ _ _ (zfO 10 _)];generalize hl0:(zX 10 t0).1=l at *
      cases hs:ziT l with
      |none =>
       have hok:=stepC_none hs;unfold okD at hok;cases hr:(zd8 l).2
       ·exact⟨_,rfl⟩
       ·rw[hr,Bool.true_and]at hok
        simp only[Bool.not_true,Bool.not_false,cond_true,hok,Bool.or_true];exact⟨_,rfl⟩
      |some p =>
       obtain⟨hok,rfl⟩:=zhv hs;have hok':=hok;unfold okD at hok';simp only[Bool.and_eq_true]at hok';simp only[hok'.1,Bool.not_true,Bool.not_false,cond_true,hok'.2,Bool.or_self,cond_false];rw[ze2 n (by omega)];exact ih N _ (n+1) _ (by omega) (by omega) (by omega) (by simp;omega)
 exact key text.length N text 0 [] (by omega) (Nat.le_refl _) (by omega) (Nat.le_refl _)
theorem svc3_path{k:Str}{p:List Str}{s:api_Service}(h:svc3 k p=some s):∃x∈p,s.Path=x:=svc3_len h
theorem chD_sm(l:Str)(hl:l.length≤17179869184):SmC (chD l):=by
 have hk:=keyOf_len l
 have hv:∀x∈zG 32 (za8 l),x.length≤17179869184:=fun x hx=>by
  have:=zcp hx;omega
 have key:(zd8 l).1.file.Path.length≤17179869184∧(zd8 l).1.setting.Key.length≤17179869184∧(zd8 l).1.service.Path.length≤17179869184:=by
  unfold zd8;dsimp only;generalize hs3:svc3 (zbM l) (zG 32 (za8 l))=s3
  have hsp:∀s,s3=some s→s.Path.length≤17179869184:=fun s e=>by
   rw[e]at hs3;obtain⟨x,hx,e⟩:=svc3_path hs3
   rw[e];exact hv x hx
  generalize zdt l=w
  have hkk:(zbM l).length≤17179869184:=by omega
  generalize zbM l=k at *;generalize zce l=two;generalize zkA (za8 l)=u
  have h0:([]:Str).length≤17179869184:=by simp
  clear hs3;cases (!(zX 32 l).2.2||decide (k=[]))
  rotate_left
  ·exact⟨h0,h0,h0⟩
  simp only[cond_false]
  cases decide (w=wFact)||decide (w=wSet)
  rotate_left
  ·exact⟨h0,hkk,h0⟩
  simp only[cond_false]
  cases ((decide (w=wFile)||decide (w=wRun))||decide (w=wPut))||decide (w=zc6)
  rotate_left
  ·exact⟨hkk,h0,h0⟩
  simp only[cond_false];cases decide (w=zcD)
  rotate_left
  ·simp only[cond_true]
   cases two
   ·exact⟨h0,h0,h0⟩
   ·cases s3 with
    |none=>exact⟨h0,h0,h0⟩
    |some s=>exact⟨h0,h0,hsp s rfl⟩
  simp only[cond_false];cases decide (w=zd2)
  rotate_left
  ·exact⟨hkk,h0,h0⟩
  simp only[cond_false];cases decide (w=zfK)
  rotate_left
  ·exact⟨h0,hkk,h0⟩
  simp only[cond_false];cases decide (w=zjG)
  rotate_left
  ·exact⟨h0,h0,h0⟩
  exact⟨h0,h0,h0⟩
 exact⟨key.1,key.2.1,key.2.2⟩
theorem procC_sm:∀(L:List Str) (n:Nat) (o o':List api_Change),(∀x∈L,x.length≤17179869184)→(∀c∈o,SmC c)→zg0 n o L=.inr o'→∀c∈o',SmC c
 |[],n,o,o',hL,ho,h=>by
  simp only[zg0]at h;cases h;exact ho
 |[x],n,o,o',hL,ho,h=>by
  simp only[zg0]at h;cases hx:decide (x=[])
  ·rw[hx]at h;cases h
  ·rw[hx]at h
   cases h;exact ho
 |x::y::r,n,o,o',hL,ho,h=>by
  rw[zjR _ _ _ _ (by simp)]at h
  cases hs:ziT x with
  |none=>rw[hs]at h;cases h
  |some c =>
   rw[hs]at h;obtain⟨hok,rfl⟩:=zhv hs;refine procC_sm (y::r) (n+1) _ o' (fun z hz=>hL z (List.mem_cons_of_mem _ hz)) (fun d hd=>?_) h
   rcases List.mem_append.1 hd with hd|hd
   ·exact ho d hd
   ·rw[List.mem_singleton.1 hd]
    exact chD_sm x (hL x (List.mem_cons_self ..))
def parseC(text:Str):List api_Change×Int×Int:=match zg0 0 [] (zG 10 text)with
 |.inl j=>([],(j:Int),8)
 |.inr o=>bif !decide (zfn o=0)then([],0,zfn o)else(o,0,0)
theorem proc_smC(text:Str)(ht:text.length≤4194304){o:List api_Change}(h:zg0 0 [] (zG 10 text)=.inr o):∀c∈o,SmC c :=
 procC_sm _ 0 [] o (fun x hx=>by have:=zcp hx;omega) (fun c hc=>by cases hc) h
theorem zke(text:Str)(ht:text.length≤4194304):zbO text=some (parseC text):=by
 unfold zbO parseC;rw[decide_eq_false (by omega),cond_false];have h:=eachLineC_eq text (by omega)
 cases hp:zg0 0 [] (zG 10 text)with
 |inl j =>
  rw[hp]at h;obtain⟨q,h⟩:=h;rw[h,zf];simp only;rw[decide_eq_true (by omega)];rfl
 |inr o =>
  rw[hp]at h;rw[show zbi text []=some (-1,o)from h,zf];simp only;rw[show decide ((0:Int)≤-1)=false from rfl,cond_false,D_changes_eq o (proc_smC text ht hp),zf]
  cases decide (zfn o=0) <;> rfl
theorem same_ch(l:List api_Change):zJ l l=some true:=by
 unfold zJ;rw[decide_eq_true rfl];exact same_loop l (fun c_20 c_21=>(decide (c_20.Kind=c_21.Kind))&&((decide (c_20.File.Path=c_21.File.Path))&&((decide (c_20.File.Data=c_21.File.Data))&&((decide (c_20.File.Runs=c_21.File.Runs))&&((decide (c_20.Setting.Key=c_21.Setting.Key))&&((decide (c_20.Setting.Value=c_21.Setting.Value))&&((decide (c_20.Service.Name=c_21.Service.Name))&&((decide (c_20.Service.Path=c_21.Service.Path))&&((decide (c_20.Service.Auto=c_21.Service.Auto))&&(decide (c_20.Service.On=c_21.Service.On))))))))))) (fun x=>by simp) l 0 rfl
theorem wrapU(n:Nat)(h:n<18446744073709551616):IntKind.u64.wrap (n:Int)=n:=by
 unfold IntKind.wrap;simp only[IntKind.bits,IntKind.signed,Bool.false_and,Bool.false_eq_true,if_false];omega
theorem wrapU_range(n:Int):∃m:Nat,IntKind.u64.wrap n=m∧m<18446744073709551616:=by
 refine⟨(n % 18446744073709551616).toNat,?_,by omega⟩;unfold IntKind.wrap;simp only[IntKind.bits,IntKind.signed,Bool.false_and,Bool.false_eq_true,if_false];omega
theorem shr_eq(n c:Nat)(k:IntKind)(hc:c≤k.bits):Int.fdiv (n:Int) (2^(shI k (c:Int)))=((n / 2^c:Nat):Int):=by
 have:shI k (c:Int)=c:=by unfold shI;simp;omega
 rw[this,Int.fdiv_eq_ediv_of_nonneg _ (Int.le_of_lt (Int.pow_pos (by decide)))]
 rw[Int.natCast_ediv,Int.natCast_pow];rfl
theorem and_mask(n c m:Nat)(h:n<18446744073709551616)(hm:m=2^c-1)(hc:c<64):zbc .and .u64 (n:Int) (m:Int)=((n % 2^c:Nat):Int):=by
 subst hm;have h1:2^c≤2^63:=Nat.pow_le_pow_right (by decide) (by omega)
 show IntKind.u64.wrap (((BitVec.ofInt 64 (n:Int) &&& BitVec.ofInt 64 ((2^c-1:Nat):Int)).toNat:Nat):Int)=_
 rw[BitVec.toNat_and,BitVec.toNat_ofInt,BitVec.toNat_ofInt]
 have e1:((n:Int) % ((2^64:Nat):Int)).toNat=n:=by omega
 have e2:(((2^c-1:Nat):Int) % ((2^64:Nat):Int)).toNat=2^c-1:=by omega
 rw[e1,e2,Nat.and_two_pow_sub_one_eq_mod];exact wrapU _ (Nat.lt_of_le_of_lt (Nat.mod_le _ _) h)
theorem zl4{Z S α:Type}(g:S→α→S)(k:S→Option Z):∀(l:List α) (i:Nat) (s:S),forL l i (fun _ c s nx _=>nx (g s c)) s k=k (l.foldl g s)
 |[],_,_=>rfl
 |x::l,i,s=>by
  unfold forL;exact zl4 g k l (i+1) (g s x)
theorem znT{α:Type}(n i:Nat)(f:Nat→α)(v:α):((List.range n).map f).set i v=(List.range n).map (fun j=>if j=i then v else f j):=by
 apply List.ext_getElem
 ·simp
 ·intro j h1 h2
  simp only[List.getElem_set,List.getElem_map,List.getElem_range]
  by_cases h:i=j
  ·subst h;simp
  ·rw[if_neg h,if_neg (Ne.symm h)]
theorem strOf_map{α:Type}(l:List α)(f:α→UInt8):Go.Vc.strOf (l.map fun x=>((f x).toNat:Int))=l.map f:=by
 unfold Go.Vc.strOf;simp
def HXs:Str:=[48,49,50,51,52,53,54,55,56,57,97,98,99,100,101,102]
def D36:Str:=[48,49,50,51,52,53,54,55,56,57,97,98,99,100,101,102,103,104,105,106,107,108,109,110,111,112,113,114,115,116,117,118,119,120,121,122]
def dg(n:Nat):UInt8:=HXs.getD n 0
def hx:Nat→Nat→Str
 |0,_=>[]
 |k+1,n=>hx k (n / 16)++[dg (n % 16)]
def hashI(h:Int)(c:UInt8):Int:=IntKind.u64.wrap ((zbc .xor .u64 h (IntKind.u64.wrap (c.toNat:Int)))*1099511628211)
def hashZ(s:Str):Int:=s.foldl hashI 14695981039346656037
def sumS(s:Str):Str:=hx 16 (hashZ s).toNat
theorem hashZ_nat(s:Str):∃n:Nat,hashZ s=n∧n<18446744073709551616:=by
 have:∀(s:Str) (h:Int),(∃n:Nat,h=n∧n<18446744073709551616)→∃n:Nat,s.foldl hashI h=n∧n<18446744073709551616:=by
  intro s
  induction s with
  |nil=>exact fun h hh=>hh
  |cons c s ih=>exact fun h _=>ih _ (wrapU_range _)
 exact this s _ ⟨14695981039346656037,rfl,by decide⟩
theorem hx_length:∀(k n:Nat),(hx k n).length=k
 |0,_=>rfl
 |k+1,n=>by simp[hx,hx_length k]
theorem zll(s:Str):(sumS s).length=16:=hx_length _ _
theorem dg_d36:∀m:Fin 16,D36.getD m.val 0=dg m.val:=by decide
theorem idx_hx{Z:Type}(m:Nat)(h:m<16)(k:Int→Option Z):zgR HXs (m:Int) k=k ((dg m).toNat:Int):=by
 rw[zeI (by simpa [HXs]using h)];simp only[dg,List.getD_eq_getElem?_getD,List.getElem?_eq_getElem (show m<HXs.length by simpa [HXs]using h),Option.getD_some]
theorem idx_d36{Z:Type}(m:Nat)(h:m<16)(k:Int→Option Z):zgR D36 (m:Int) k=k ((dg m).toNat:Int):=by
 have hl:m<D36.length:=by simp[D36];omega
 rw[zeI hl,←dg_d36 ⟨m,h⟩];simp only[List.getD_eq_getElem?_getD,List.getElem?_eq_getElem hl,Option.getD_some]
theorem hx16(n:Nat):(List.range 16).map (fun j=>dg (n / 2^(60-4*j) % 16))=hx 16 n:=by
 simp only[hx,List.range,List.range.loop,List.map_cons,List.map_nil,Nat.div_div_eq_div_mul,List.nil_append,List.cons_append];simp
theorem zoC(s:Str):zei s=some (sumS s):=by
 obtain⟨n,hn,hlt⟩:=hashZ_nat s;unfold zei;obtain⟨N,hN⟩:∃N,zib=N:=⟨_,rfl⟩;have hF:1099511627776≤N:=hN ▸ zgC;rw[hN]
 show forL s 0 (fun _ c h nx _=>nx (hashI h c)) 14695981039346656037 _=_
 rw[zl4]
 show jp _ (fun k_27=>loopN N _ _ _)=_
 rw[show s.foldl hashI 14695981039346656037=(n:Int)from hn];unfold jp
 let arr:=fun i:Nat=>(List.range 16).map fun j=>if j<i then((dg (n / 2^(60-4*j) % 16)).toNat:Int)else 0
 refine(zfc (fun s=>∃i:Nat,s.1=(i:Int)∧i≤16∧s.2=arr i) (fun s=>16-s.1.toNat) (fun _=>some (sumS s)) ?_ N _ ⟨0,rfl,by omega,?_⟩ (by show 16-Int.toNat 0<N;simp;omega)).trans rfl
 ·rintro⟨t,o⟩ nx ⟨i,h1,hi,h2⟩ hnx
  obtain rfl:t=i:=h1;obtain rfl:o=arr i:=h2;simp only[List.length_replicate]
  by_cases h:i<16
  ·rw[bif_t (decide_eq_true (by omega))]
   have e1:IntKind.i64.wrap (60-IntKind.i64.wrap (4*(i:Int)))=((60-4*i:Nat):Int):=by
    rw[zdq (n:=4*(i:Int)) (by omega) (by omega),zdq (by omega) (by omega)];omega
   rw[e1,zg (by omega),shr_eq _ _ _ (by simp only[IntKind.bits];omega)];rw[show(15:Int)=((15:Nat):Int)from rfl,and_mask _ 4 15 (Nat.lt_of_le_of_lt (Nat.div_le_self _ _) hlt) (by decide) (by decide)]
   show zgR HXs _ _=_
   rw[idx_hx _ (Nat.mod_lt _ (by decide)),zg (by simp[arr];omega),ze2 i (by omega)];refine hnx _ ⟨i+1,rfl,by omega,?_⟩ ?_
   ·show List.set (arr i) (Int.toNat (i:Int)) _=_
    rw[Int.toNat_natCast]
    show((List.range 16).map _).set i _=(List.range 16).map _
    rw[znT];apply List.map_congr_left;intro j _
    by_cases hj:j=i
    ·subst hj;rw[if_pos rfl,if_pos (by omega)]
    ·rw[if_neg hj]
     by_cases hj':j<i
     ·rw[if_pos hj',if_pos (by omega)]
     ·rw[if_neg hj',if_neg (by omega)]
   ·show 16-Int.toNat ((i+1:Nat):Int)<16-Int.toNat (i:Int)
    rw[Int.toNat_natCast,Int.toNat_natCast];omega
  ·rw[zkO (decide_eq_false (by omega))]
   obtain rfl:i=16:=by omega
   show some (Go.Vc.strOf (arr 16))=_
   have:arr 16=(List.range 16).map fun j=>((dg (n / 2^(60-4*j) % 16)).toNat:Int):=by
    apply List.map_congr_left;intro j hj;rw[if_pos (List.mem_range.1 hj)]
   rw[this,strOf_map,hx16];unfold sumS
   rw[hn];rfl
 ·show List.replicate 16 (0:Int)=_
  apply List.ext_getElem
  ·simp[arr]
  ·intro j h1 h2
   rw[List.getElem_replicate];simp only[arr,List.getElem_map,List.getElem_range];rfl
def fm:Nat→Nat→Str
 |0,n=>[dg n]
 |k+1,n=>if n<16 then [dg n]else fm k (n / 16)++[dg (n % 16)]
theorem hx_zero:∀k:Nat,hx k 0=List.replicate k 48
 |0=>rfl
 |k+1=>by
  show hx k (0 / 16)++[dg (0 % 16)]=_
  rw[Nat.zero_div,hx_zero k,List.replicate_succ'];rfl
theorem fm_len:∀k n:Nat,1≤(fm k n).length∧(fm k n).length≤k+1
 |0,n=>by simp[fm]
 |k+1,n=>by
  have:=fm_len k (n / 16);simp only[fm]
  split <;> simp <;> omega
theorem fm_pad:∀k n:Nat,n<16^(k+1)→List.replicate (k+1-(fm k n).length) 48++fm k n=hx (k+1) n
 |0,n,h=>by
  have:n % 16=n:=Nat.mod_eq_of_lt (by simpa using h);simp[fm,hx,this]
 |k+1,n,h=>by
  have hl:=fm_len k (n / 16);simp only[fm];split
  ·rename_i h16
   have e1:n / 16=0:=Nat.div_eq_of_lt h16;have e2:n % 16=n:=Nat.mod_eq_of_lt h16
   show _=hx (k+1) (n / 16)++[dg (n % 16)]
   rw[e1,e2,hx_zero];rfl
  ·have ih:=fm_pad k (n / 16) (by rw[Nat.pow_succ]at h;omega)
   show _=hx (k+1) (n / 16)++[dg (n % 16)]
   rw[←ih,List.length_append,List.append_assoc]
   congr 2
   simp
theorem tz16:za3 (IntKind.u64.wrap 16)=some 4:=by decide +kernel
theorem pow16:zat 16=some true:=by decide +kernel
theorem set_drop(l:List Int)(i:Nat)(v:Int)(h:i<l.length):(l.set i v).drop i=v::l.drop (i+1):=by
 rw[List.drop_set];simp only[Nat.lt_irrefl,if_false,Nat.sub_self];rw[List.drop_eq_getElem_cons h];rfl
theorem zln(v:UInt8)(l:List Int):Go.Vc.strOf ((v.toNat:Int)::l)=v::Go.Vc.strOf l:=by simp[Go.Vc.strOf]
theorem formatBits16(n:Nat)(h:n<18446744073709551616):zaj [] (n:Int) 16 false false=some ([],fm 15 n):=by
 unfold zaj;obtain⟨N,hN⟩:∃N,zib=N:=⟨_,rfl⟩;have hF:1099511627776≤N:=hN ▸ zgC;rw[hN];simp only[pow16,tz16,zf,jp,cond_true,cond_false,show decide ((16:Int)<2)=false from rfl,show decide ((16:Int)=10)=false from rfl,show decide ((36:Int)<16)=false from rfl,Bool.or_self]
 have hw:IntKind.u64.wrap 16=16:=by decide
 have hw4:IntKind.u64.wrap 4=((4:Nat):Int):=by decide
 have hw15:IntKind.u64.wrap (16-1)=((15:Nat):Int):=by decide
 rw[hw,hw4,hw15];refine(zfc (fun s=>∃m j:Nat,s.1=(m:Int)∧s.2.1=(j:Int)∧j≤65∧50≤j∧m<16^(j-49)∧s.2.2.length=65∧fm 15 n=fm (j-50) m++Go.Vc.strOf (s.2.2.drop j)) (fun s=>s.2.1.toNat) (fun _=>some ([],fm 15 n)) ?_ N _ ⟨n,65,rfl,rfl,by omega,by omega,by omega,by simp,by simp[Go.Vc.strOf]⟩ (by show Int.toNat 65<N;simp;omega));rintro⟨u,i,o⟩ nx ⟨m,j,h1,h2,hj,hj',hm,hl,hf⟩ hnx;obtain rfl:u=m:=h1;obtain rfl:i=j:=h2;simp only;simp only at hl hf;have hmlt:m<18446744073709551616:=Nat.lt_of_lt_of_le hm (Nat.le_trans (Nat.pow_le_pow_right (by decide) (show j-49≤16 by omega)) (by decide));have e1:IntKind.i64.wrap ((j:Int)-1)=((j-1:Nat):Int):=wrapm1 j (by omega) (by omega);rw[e1]
 by_cases hc:16≤m
 ·rw[bif_t (decide_eq_true (by omega)),and_mask m 4 15 hmlt (by decide) (by decide)]
  show zgR D36 _ _=_
  rw[idx_d36 _ (Nat.mod_lt _ (by decide)),zg (by omega),zg (by omega),shr_eq m 4 .u64 (by decide)]
  have h50:50<j:=by
   rcases Nat.lt_or_ge 50 j with h'|h'
   ·exact h'
   ·exfalso
    obtain rfl:j=50:=by omega
    simp at hm;omega
  refine hnx _ ⟨m / 16,j-1,rfl,rfl,by omega,by omega,?_,by simpa using hl,?_⟩ (by show Int.toNat _<Int.toNat _;rw[Int.toNat_natCast,Int.toNat_natCast];omega)
  ·have:16^(j-49)=16^(j-1-49)*16:=by rw[←Nat.pow_succ];congr 1;omega
   rw[this]at hm;omega
  ·rw[hf,Int.toNat_natCast]
   rw[show j-50=(j-1-50)+1 by omega];simp only[fm];rw[if_neg (by omega),set_drop _ _ _ (by omega),zln,show j-1+1=j by omega,List.append_assoc];rfl
 ·rw[zkO (decide_eq_false (by omega))]
  show zgR D36 _ _=_
  rw[idx_d36 m (by omega),zg (by omega)];rw[zg (by simp only[List.length_set];omega)];rw[Int.toNat_natCast,set_drop _ _ _ (by omega),show j-1+1=j by omega,List.take_of_length_le (by simp;omega),zln,hf]
  have:fm (j-50) m=[dg m]:=by
   cases e:j-50 with
   |zero=>rfl
   |succ k=>simp only[fm];rw[if_pos (by omega)]
  rw[this];rfl
theorem FormatUint16(n:Nat)(h:n<18446744073709551616):zbl (n:Int) 16=some (fm 15 n):=by
 unfold zbl zaH
 rw[formatBits16 n h];rfl
theorem repeat0:∀c:Fin 17,zcT [48] (c.val:Int)=some (List.replicate c.val 48):=by
 intro c;obtain⟨c,hc⟩:=c;simp only;unfold zcT;obtain⟨N,hN⟩:∃N,zib=N:=⟨_,rfl⟩;rw[hN];clear hN
 by_cases h0:c=0
 ·subst h0;rfl
 by_cases h1:c=1
 ·subst h1;rfl
 rw[zkO (decide_eq_false (by omega)),zkO (decide_eq_false (by omega))]
 have hm:∀c:Fin 17,zeV (IntKind.u64.wrap (([48]:Str).length:Int)) (IntKind.u64.wrap (c.val:Int))=some (0,(c.val:Int)):=by decide +kernel
 simp only[zaw];rw[zkO (decide_eq_false (by omega)),hm ⟨c,hc⟩];simp only[zf];rw[show decide ((0:Int)<0)=false from rfl,zkO (by simp;omega)];rw[zkO (by simp)]
 show zgR [48] ((0:Nat):Int) _=_
 rw[zeI (by simp)];simp only[List.getElem_cons_zero];rw[show decide (((48:UInt8).toNat:Int)=32)=false from rfl,show decide (((48:UInt8).toNat:Int)=45)=false from rfl,show decide (((48:UInt8).toNat:Int)=48)=true from rfl,cond_false,cond_false,cond_true,cond_true]
 have hp:∀(g:Bool) (a b:Str) (k:Bool→Option Str),zT a b=some false→callG g (zT a b) false k=k false:=by
  intro g a b k h;rw[h,zad]
  cases g <;> rfl
 have ew:IntKind.i64.wrap (c:Int)=c:=wrapN c (by omega);rw[hp _ _ _ _ (by decide +kernel),Bool.and_false,cond_false,hp _ _ _ _ (by decide +kernel),Bool.and_false,cond_false,ew];rw[show zT _ [48]=some true from by decide +kernel,zad,decide_eq_true (by omega:(c:Int)≤64)];simp only[Bool.and_true,cond_true]
 have hk:∀c:Fin 17,List.take (Int.toNat (c.val:Int)) ([48,48,48,48,48,48,48,48,48,48,48,48,48,48,48,48,48,48,48,48,48,48,48,48,48,48,48,48,48,48,48,48,48,48,48,48,48,48,48,48,48,48,48,48,48,48,48,48,48,48,48,48,48,48,48,48,48,48,48,48,48,48,48,48]:Str)=List.replicate c.val 48:=by decide
 rw[zg (by simp;omega),hk ⟨c,hc⟩]
theorem zkb(s:Str):ziJ s=some (sumS s):=by
 obtain⟨n,hn,hlt⟩:=hashZ_nat s;unfold ziJ
 show jp _ (fun k=>forL s 0 (fun _ c h nx _=>nx (hashI h c)) 14695981039346656037 _)=_
 simp only[zaw];rw[zl4];rw[show s.foldl hashI 14695981039346656037=(n:Int)from hn,FormatUint16 n hlt];have hl:=fm_len 15 n;simp only[zf];rw[show IntKind.i64.wrap (16-((fm 15 n).length:Int))=((16-(fm 15 n).length:Nat):Int)by rw[zdq (by omega) (by omega)];omega];have:=repeat0 ⟨16-(fm 15 n).length,by omega⟩;simp only at this;rw[this,zf,zg (by simp;omega),fm_pad 15 n (by omega)];unfold sumS
 rw[hn];rfl
def hN(n:Nat)(c:UInt8):Nat:=((n ^^^ c.toNat)*1099511628211) % 18446744073709551616
def hF(n:Nat)(s:Str):Nat:=s.foldl hN n
def atoiN(s:Str):Int:=(Go.Lib.atoi s).getD 0
theorem atoiV_short{s:Str}(h:s.length≤18):zek s=atoiN s:=by
 unfold zek atoiN;rw[Go.Lib.atoiAll_short s h]
 cases Go.Lib.atoi s <;> rfl
theorem atoiE_short{s:Str}(h:s.length≤18):atoiE s=(Go.Lib.atoi s).isSome:=by
 unfold atoiE;rw[Go.Lib.atoiAll_short s h]
 cases Go.Lib.atoi s <;> rfl
def val(acc:Nat)(l:Str):Nat:=l.foldl (fun n c=>n*10+(c.toNat-48)) acc
theorem zk7{c:UInt8}(h:zcN c=true):48≤c.toNat∧c.toNat≤57:=by
 unfold zcN at h;simp only[Bool.and_eq_true,decide_eq_true_eq]at h;omega
theorem ziy:∀(l:Str) (acc:Nat),l.all zcN=true→Go.Lib.decFrom acc l=some (val acc l)
 |[],_,_=>rfl
 |c::l,acc,h=>by
  simp only[List.all_cons,Bool.and_eq_true]at h;have:=zk7 h.1;unfold Go.Lib.decFrom Go.Lib.digitVal;rw[if_pos this];exact ziy l _ h.2
theorem atoiN_val{w:Str}(h:w.all zcN=true)(hne:w≠[]):atoiN w=(val 0 w:Nat):=by
 cases w with
 |nil=>exact absurd rfl hne
 |cons c l =>
  have hc:zcN c=true:=by simp only[List.all_cons,Bool.and_eq_true]at h;exact h.1
  have hr:=zk7 hc
  have h1:(c == 45)=false:=by
   rw[beq_eq_false_iff_ne];rintro rfl;revert hr;decide
  have h2:(c == 43)=false:=by
   rw[beq_eq_false_iff_ne];rintro rfl;revert hr;decide
  unfold atoiN Go.Lib.atoi Go.Lib.decNat;simp only[h1,h2,Bool.false_eq_true,if_false,List.isEmpty_cons,ziy _ 0 h,Option.map_some,Option.getD_some]
theorem dgc(d:Nat)(h:d<10):(UInt8.ofNat (48+d)).toNat=48+d:=by
 rw[UInt8.toNat_ofNat'];omega
theorem dgc_B(d:Nat)(h:d<10):zcN (UInt8.ofNat (48+d))=true:=by
 unfold zcN
 rw[dgc d h,Bool.and_eq_true,decide_eq_true_eq,decide_eq_true_eq];omega
theorem val_snoc(l:Str)(c:UInt8):val 0 (l++[c])=val 0 l*10+(c.toNat-48):=by unfold val;rw[List.foldl_append];rfl
structure DD(u:Nat)(l:Str):Prop where
 dig:l.all zcN=true
 vl:val 0 l=u
 ne:l≠[]
 hd:u≠0→(l.getD 0 0).toNat≠48
 len:∀k,u<10^(k+1)→l.length≤k+1
theorem dd(u:Nat):DD u (Go.Lib.decDigits u):=by
 induction u using Nat.strongRecOn with
 |ind u ih =>
  unfold Go.Lib.decDigits
  by_cases h:u<10
  ·rw[dif_pos h]
   refine⟨by rw[List.all_cons,dgc_B u h];rfl,by simp only[val,List.foldl_cons,List.foldl_nil];rw[dgc u h];omega,by simp,fun h0=>?_,fun k _=>by simp⟩
   show(UInt8.ofNat (48+u)).toNat≠48
   rw[dgc u h];omega
  ·rw[dif_neg h]
   have q:=ih (u / 10) (by omega);have hm:u % 10<10:=Nat.mod_lt _ (by decide);refine⟨by rw[List.all_append,q.dig,List.all_cons,dgc_B _ hm];rfl,by rw[val_snoc,q.vl,dgc _ hm];omega,by simp,fun _=>?_,fun k hk=>?_⟩
   ·have hl:=List.length_pos_iff.2 q.ne
    rw[List.getD_eq_getElem?_getD,List.getElem?_append_left hl,←List.getD_eq_getElem?_getD];exact q.hd (by omega)
   ·rw[List.length_append,List.length_singleton]
    cases k with
    |zero=>simp at hk;omega
    |succ k =>
     rw[Nat.pow_succ]at hk;have:=q.len k (by omega);omega
theorem zk3{n:Int}(h:0≤n):Go.Lib.itoa n=Go.Lib.decDigits n.toNat:=by
 obtain⟨u,rfl⟩:=Int.eq_ofNat_of_zero_le h
 rw[Go.Lib.itoa_nonneg];simp
def numL(n:Nat)(s:Str):Bool:=!((decide (s=[])||decide ((n:Int)<(s.length:Int)))||(decide (((s.getD 0 0).toNat:Int)=48)&&!decide (s=[48])))&&s.all zcN
theorem zmn{s:Str}(h:s.all zcN=true)(hne:s≠[])(hl:s.length≤18):zek s=(val 0 s:Nat)∧atoiE s=true:=by
 refine⟨by rw[atoiV_short hl,atoiN_val h hne],?_⟩;rw[atoiE_short hl]
 cases s with
 |nil=>exact absurd rfl hne
 |cons c l =>
  have hc:zcN c=true:=by simp only[List.all_cons,Bool.and_eq_true]at h;exact h.1
  have hr:=zk7 hc
  have h1:(c == 45)=false:=by
   rw[beq_eq_false_iff_ne];rintro rfl;revert hr;decide
  have h2:(c == 43)=false:=by
   rw[beq_eq_false_iff_ne];rintro rfl;revert hr;decide
  unfold Go.Lib.atoi Go.Lib.decNat;simp only[h1,h2,Bool.false_eq_true,if_false,List.isEmpty_cons,ziy _ 0 h,Option.map_some,Option.isSome_some]
theorem numL_dd{u n:Nat}(hu:u<10^(n+1)):numL (n+1) (Go.Lib.decDigits u)=true:=by
 have q:=dd u;have hl:=q.len n hu;unfold numL;rw[q.dig,decide_eq_false q.ne,decide_eq_false (by omega),Bool.and_true,Bool.false_or,Bool.false_or]
 by_cases h0:u=0
 ·subst h0
  rw[show Go.Lib.decDigits 0=[48]by unfold Go.Lib.decDigits;rw[dif_pos (by decide)];rfl];decide
 ·rw[decide_eq_false (fun e=>q.hd h0 (by omega))];rfl
theorem zdw(s:Str):zew s=some (bif numL 9 s then(((val 0 s:Nat):Int),true)else(0,false)):=by
 unfold zew numL
 by_cases hA:s=[]
 ·subst hA;rfl
 have hpos:=List.length_pos_iff.2 hA;rw[decide_eq_false hA,zg (fun _=>by omega)]
 by_cases hB:(9:Int)<(s.length:Int)
 ·rw[decide_eq_true hB,show decide (((9:Nat):Int)<(s.length:Int))=true from decide_eq_true hB];rfl
 rw[decide_eq_false hB,show decide (((9:Nat):Int)<(s.length:Int))=false from decide_eq_false hB];cases hC:(decide (((s.getD 0 0).toNat:Int)=48)&&!decide (s=([48]:Str)))
 ·simp only[Bool.or_self,Bool.or_false,cond_false,Bool.not_false,Bool.true_and,zaw]
  rw[zc4 zcN (fun i x nx k=>by
   unfold zcN
   by_cases h1:((x.toNat:Int)<48)
   ·rw[decide_eq_true h1,show decide (48≤(x.toNat:Int))=false from decide_eq_false (by omega)];rfl
   ·by_cases h2:(57<(x.toNat:Int))
    ·rw[decide_eq_true h2,show decide ((x.toNat:Int)≤57)=false from decide_eq_false (by omega),Bool.or_true,Bool.and_false];rfl
    ·rw[decide_eq_false h1,decide_eq_false h2,show decide (48≤(x.toNat:Int))=true from decide_eq_true (by omega),show decide ((x.toNat:Int)≤57)=true from decide_eq_true (by omega)];rfl)]
  cases hD:s.all zcN
  ·rfl
  ·obtain⟨e1,e2⟩:=zmn hD hA (by omega)
   unfold zev;rw[cond_true,cond_true,zf,e1,e2]
 ·rfl
theorem join_eq(sep a:Str)(l:List Str)(hsep:sep.length≤1)(hl:l.length≤8000000)(hs:a.length+(l.map List.length).sum≤270000000000):zbk (a::l) sep=some (a++(l.map (sep++·)).flatten):=by
 unfold zbk;simp only[zaw];rw[zkO (decide_eq_false (by simp;omega))]
 rcases l with _|⟨b,l⟩
 ·rw[bif_t (decide_eq_true (show(([a]:List Str).length:Int)=1 from rfl))]
  show idx [a] ((0:Nat):Int) _=_
  rw[zd0 (by simp)];simp
 rw[zkO (decide_eq_false (by simp;omega))];simp only[List.length_cons]at hl
 have sumloop:∀(q:List Str) (i:Nat) (n:Nat) (k:Int→Option Str),n+(q.map List.length).sum≤274877906000 →
   forL q i (fun i_62 s_64 n_57 nx_61 k_60=>bif decide ((IntKind.i64.wrap (9223372036854775807-n_57))<(s_64.length:Int))then none else nx_61 (IntKind.i64.wrap (n_57+(s_64.length:Int)))) (n:Int) k=k ((n+(q.map List.length).sum:Nat):Int):=by
  intro q
  induction q with
  |nil=>intro i n k h;simp[forL]
  |cons x q ih =>
   intro i n k h;simp only[List.map_cons,List.sum_cons]at h;unfold forL;dsimp only;rw[zdq (n:=9223372036854775807-(n:Int)) (by omega) (by omega),zkO (decide_eq_false (by omega)),show(n:Int)+(x.length:Int)=((n+x.length:Nat):Int)by omega,wrapN _ (by omega)];rw[ih (i+1) (n+x.length) k (by omega)];simp only[List.map_cons,List.sum_cons,Nat.add_assoc]
 have wl:∀(q:List Str) (i:Nat) (o:Str),q.length≤8000000→o.length+(q.map List.length).sum+q.length≤274877906944 →
   forL q i (fun i_52 s_54 o1_46 nx_51 k_50 =>
    call (zi sep o1_46) fun r_55 =>
    call (zi s_54 r_55.2) fun r_56 =>
    nx_51 r_56.2) o (fun o1_46=>call (zC o1_46) fun r_39=>some r_39)=some (o++(q.map (sep++·)).flatten):=by
  intro q
  induction q with
  |nil=>intro i o _ h;simp[forL,zC,zf]
  |cons x q ih =>
   intro i o h1 h;simp only[List.map_cons,List.sum_cons,List.length_cons]at h h1;unfold forL;dsimp only;rw[zem _ _ (by simp;omega),zf];dsimp only;rw[zem _ _ (by simp;omega),zf];dsimp only;rw[ih _ _ (by omega) (by simp;omega)];simp
 simp only[List.map_cons,List.sum_cons]at hs
 have fin:∀n0:Nat,n0≤8000001→forL (a::b::l) 0 (fun i_62 s_64 n_57 nx_61 k_60=>bif decide ((IntKind.i64.wrap (9223372036854775807-n_57))<(s_64.length:Int))then none else nx_61 (IntKind.i64.wrap (n_57+(s_64.length:Int)))) (n0:Int) (fun n_57=>call (zaW n_57 []) fun r_17 =>
   idx (a::b::l) 0 fun s_18 =>
   call (zi s_18 []) fun r_19 =>
   chk (0≤1∧1≤((a::b::l).length:Int)) <|
   forL (List.drop 1 (a::b::l)) 0 (fun i_52 s_54 o1_46 nx_51 k_50 =>
    call (zi sep o1_46) fun r_55 =>
    call (zi s_54 r_55.2) fun r_56 =>
    nx_51 r_56.2) r_19.2 (fun o1_46=>call (zC o1_46) fun r_39=>some r_39))=some (a++((b::l).map (sep++·)).flatten):=fun n0 h0=>by
  rw[sumloop (a::b::l) 0 n0 _ (by simp;omega)];unfold zaW;rw[zg (by simp;omega),zf]
  show idx (a::b::l) ((0:Nat):Int) _=_
  rw[zd0 (by simp),List.getElem_cons_zero,zem _ _ (by simp;omega),zf,zg (by simp;omega)];dsimp only;rw[List.drop_succ_cons,List.drop_zero,wl (b::l) 0 _ (by simp;omega) (by simp;omega)];simp
 rcases sep with _|⟨c,_|⟨d,sep⟩⟩
 ·rw[zkO (by decide)]
  exact fin 0 (by omega)
 ·rw[bif_t (decide_eq_true (by simp))]
  have e1:IntKind.i64.wrap (((a::b::l).length:Int)-1)=((l.length+1:Nat):Int):=by rw[List.length_cons,List.length_cons,zdq (by omega) (by omega)];omega
  rw[e1,zg (by omega)]
  have e2:1<IntKind.i64.wrap (Int.tdiv 9223372036854775807 ((l.length+1:Nat):Int)):=by
   have h1:Int.tdiv 9223372036854775807 ((l.length+1:Nat):Int)=((9223372036854775807 / (l.length+1):Nat):Int):=by
    rw[Int.tdiv_eq_ediv_of_nonneg (by decide)];rfl
   have h2:9223372036854775807 / 8000001≤9223372036854775807 / (l.length+1):=Nat.div_le_div_left (by omega) (by omega);have h3:9223372036854775807 / (l.length+1)≤9223372036854775807:=Nat.div_le_self _ _;rw[h1,wrapN _ h3]
   have:2≤9223372036854775807 / 8000001:=by decide
   omega
  rw[zkO (decide_eq_false (by simp only[List.length_singleton];omega))]
  have e3:IntKind.i64.wrap (0+(IntKind.i64.wrap ((([c]:Str).length:Int)*((l.length+1:Nat):Int))))=((l.length+1:Nat):Int):=by
   rw[show(([c]:Str).length:Int)=1 from rfl,Int.one_mul,wrapN _ (by omega),Int.zero_add,wrapN _ (by omega)]
  rw[e3];exact fin (l.length+1) (by omega)
 ·simp at hsep
theorem val_pos:∀(s:Str),s.all zcN=true→s≠[]→(s.getD 0 0).toNat≠48→0<val 0 s∧Go.Lib.decDigits (val 0 s)=s:=by
 have key:∀(k:Nat) (s:Str),s.length=k→s.all zcN=true→s≠[]→(s.getD 0 0).toNat≠48→0<val 0 s∧Go.Lib.decDigits (val 0 s)=s:=by
  intro k
  induction k with
  |zero=>intro s hk _ hn;exact absurd (List.length_eq_zero_iff.1 hk) hn
  |succ k ih =>
   intro s hk hd hn h0;obtain⟨t,c,rfl⟩:∃t c,s=t++[c]:=⟨s.dropLast,s.getLast hn,(List.dropLast_concat_getLast hn).symm⟩;rw[List.length_append,List.length_singleton]at hk;rw[List.all_append,Bool.and_eq_true,List.all_cons,List.all_nil,Bool.and_true]at hd;have hc:=zk7 hd.2;rw[val_snoc]
   by_cases ht:t=[]
   ·subst ht
    have h0':c.toNat≠48:=h0;rw[show val 0 ([]:Str)*10+(c.toNat-48)=c.toNat-48 from by simp[val]];refine⟨by omega,?_⟩;unfold Go.Lib.decDigits;rw[dif_pos (by omega),show 48+(c.toNat-48)=c.toNat by omega];simp
   ·have hp:=List.length_pos_iff.2 ht
    rw[List.getD_eq_getElem?_getD,List.getElem?_append_left hp,←List.getD_eq_getElem?_getD]at h0;obtain⟨h1,h2⟩:=ih t (by omega) hd.1 ht h0;refine⟨by omega,?_⟩;unfold Go.Lib.decDigits;rw[dif_neg (by omega),show(val 0 t*10+(c.toNat-48)) / 10=val 0 t by omega,show(val 0 t*10+(c.toNat-48)) % 10=c.toNat-48 by omega,h2,show 48+(c.toNat-48)=c.toNat by omega];simp
 exact fun s=>key s.length s rfl
theorem numL_val{n:Nat}{s:Str}(h:numL n s=true):s.all zcN=true∧s≠[]∧s.length≤n∧Go.Lib.decDigits (val 0 s)=s:=by
 unfold numL at h;simp only[Bool.and_eq_true,Bool.not_eq_true',Bool.or_eq_false_iff,decide_eq_false_iff_not]at h;obtain⟨⟨⟨h1,h2⟩,h3⟩,h4⟩:=h;refine⟨h4,h1,by omega,?_⟩
 by_cases h5:s=[48]
 ·subst h5
  unfold Go.Lib.decDigits;rw[dif_pos (by decide)];rfl
 ·rw[decide_eq_false h5,Bool.not_false,Bool.and_true,decide_eq_false_iff_not]at h3
  exact(val_pos s h4 h1 (by omega)).2
theorem R_count(s:Str)(L:Int)(hL:L≤100000000):((((!atoiE s)||decide (zek s<0))||!decide ((bif !((!atoiE s)||decide (zek s<0))then Go.Lib.itoa (zek s)else [])=s))||decide (L<zek s))=(!numL 9 s||decide (L<(val 0 s:Nat)))∧(numL 9 s=true→zek s=(val 0 s:Nat)):=by
 cases hn:numL 9 s
 ·refine⟨?_,fun h=>by cases h⟩
  rw[Bool.not_false,Bool.true_or];cases he:atoiE s
  ·rfl
  by_cases h0:zek s<0
  ·rw[decide_eq_true h0];rfl
  rw[decide_eq_false h0]
  by_cases h1:Go.Lib.itoa (zek s)=s
  ·by_cases h2:L<zek s
   ·rw[decide_eq_true h2,Bool.or_true]
   ·have:=numL_dd (n:=8) (u:=(zek s).toNat) (by omega)
    rw[←zk3 (by omega),h1,hn]at this;cases this
  ·simp only[Bool.not_true,Bool.or_self,Bool.not_false,cond_true,decide_eq_false h1,Bool.or_true,Bool.true_or]
 ·obtain⟨h1,h2,h3,h4⟩:=numL_val hn
  obtain⟨e1,e2⟩:=zmn h1 h2 (by omega);refine⟨?_,fun _=>e1⟩;rw[e1,e2,zk3 (by omega),decide_eq_false (show ¬ ((val 0 s:Nat):Int)<0 by omega)];simp only[Int.toNat_natCast,h4,Bool.not_true,Bool.or_self,Bool.not_false,cond_true,decide_true,Bool.false_or]
theorem ze0{n:Nat}(h:n≤4194304):(Go.Lib.itoa (n:Int)).length≤20:=by
 rw[zk3 (by omega)];exact Nat.le_trans ((dd _).len 7 (by simp;omega)) (by decide)
theorem R_first2(a b:Int):zbY [a,b]=some (bif decide (a=0)then b else a):=by
 unfold zbY;simp only[zaw,forL];cases ha:decide (a=0)
 ·rfl
 ·cases hb:decide (b=0)
  ·rfl
  ·simp only[of_decide_eq_true hb,Bool.not_true,cond_false,cond_true]
def wJou:Str:=[106,111,117,114,110,97,108]
def zlb:Str:=[99,104,97,110,103,101,115]
def zkQ:Str:=[111,108,100]
def wSum:Str:=[115,117,109]
def zhN(w:Str)(l:List api_Change):Str:=w++32::(Go.Lib.itoa (l.length:Int)++10::zb1 l)
def zhT(j:api_Journal):Str:=wJou++32::(j.Id++10::(zhN zlb j.Changes++zhN zkQ j.Old))
def sealJ(b:Str):Str:=b++(wSum++32::(sumS b++[10]))
def zgN(j:api_Journal):Str:=sealJ (zhT j)
def eJ(j:api_Journal):Int:=bif decide (zfn j.Changes=0)then zfn j.Old else zfn j.Changes
def pJ(j:api_Journal):Str×Int :=
 bif !zbe j.Id then([],5)else bif !decide (eJ j=0)then([],eJ j)else
 bif decide (65536<((zgN j).length:Int))then([],4)else(zgN j,0)
structure SmL(l:List api_Change):Prop where
 c:∀c∈l,SmC c
 d:∀c∈l,SmD c
 p:(zb1 l).length≤4194304
 n:l.length≤4194304
theorem zjj(n:Nat)(h:n≤4194304):strconv_Itoa (n:Int)=some (Go.Lib.itoa (n:Int)):=by
 unfold strconv_Itoa;exact zg (by omega) _
theorem zkY{s:Str}(h:zbe s=true):s.length≤40:=by
 unfold zbe at h;simp only[Bool.and_eq_true,decide_eq_true_eq]at h;omega
theorem part_len(w:Str)(l:List api_Change)(hw:w.length≤10)(h:SmL l):(zhN w l).length≤5000000:=by
 have h1:=h.p;have h2:=ze0 h.n;unfold zhN;simp only[List.length_append,List.length_cons];omega
theorem R_print(l:List api_Change)(h:SmL l)(he:zfn l=0):za6 l=some (zb1 l) :=
 zny l h.d (fun c hc=>(zhF (zmd he c hc)).1) (by have:=h.p;omega)
theorem R_printJ(j:api_Journal)(h1:SmL j.Changes)(h2:SmL j.Old):zaF j=some (pJ j):=by
 unfold zaF pJ;rw[zdb,zf];cases hn:zbe j.Id
 ·rfl
 have hl:=zkY hn;have g1:=part_len zlb _ (by decide) h1;have g2:=part_len zkQ _ (by decide) h2;have i1:=ze0 h1.n;have i2:=ze0 h2.n;have p1:=h1.p;have p2:=h2.p;simp only[Bool.not_true,cond_false];rw[zfz _ h1.c,zf,zfz _ h2.c,zf,R_first2,zf]
 show(bif !decide (eJ j=0)then some ([],eJ j)else _)=_
 cases he:decide (eJ j=0)
 ·rfl
 have hz:=of_decide_eq_true he;unfold eJ at hz
 have e1:zfn j.Changes=0:=by
  cases e1:decide (zfn j.Changes=0)
  ·rw[e1,cond_false]at hz;rw[hz]at e1;cases e1
  ·exact of_decide_eq_true e1
 rw[e1]at hz;have e2:zfn j.Old=0:=hz;simp only[Bool.not_true,cond_false]
 have hb:((((((((([106,111,117,114,110,97,108,32]:Str)++j.Id)++([10,99,104,97,110,103,101,115,32]:Str))++Go.Lib.itoa (j.Changes.length:Int))++([10]:Str))++zb1 j.Changes)++([111,108,100,32]:Str))++Go.Lib.itoa (j.Old.length:Int))++([10]:Str))++zb1 j.Old=zhT j:=by
  simp[zhT,zhN,wJou,zlb,zkQ]
 have hbl:(zhT j).length≤20000000:=by
  unfold zhT;simp only[List.length_append,List.length_cons,show wJou.length=7 from rfl];omega
 have hs:=zll (zhT j)
 have hp:zhT j++((([115,117,109,32]:Str)++sumS (zhT j))++([10]:Str))=zgN j:=by
  simp[zgN,sealJ,wSum]
 rw[←hb]at hp hs hbl;rw[zg (by simp;omega),zg (by simp;omega),zjj _ h1.n,zf,zg (by simp;omega),zg (by simp;omega),R_print _ h1 e1,zf,zg (by simp;omega),zg (by simp;omega),zjj _ h2.n,zf,zg (by simp;omega),zg (by simp;omega),R_print _ h2 e2,zf,zg (by simp;omega)];rw[zkb,zf,zg (by simp only[List.length_append];rw[hs];simp),zg (by simp only[List.length_append];rw[hs];simp),zg (by simp only[List.length_append]at hbl⊢;rw[hs];simp only[List.length_cons,List.length_nil]at hbl⊢;omega)];exact(zeX _ _ _).trans (congrArg (fun t:Str=>some (bif decide (65536<((t.length:Nat):Int))then(([]:Str),(4:Int))else(t,0))) hp)
def aft(c:UInt8):List Str→List Str
 |[]=>[]
 |[x]=>[x]
 |x::y::r=>(x++[c])::aft c (y::r)
theorem aft_cons(c:UInt8)(x:Str){l:List Str}(h:l≠[]):aft c (x::l)=(x++[c])::aft c l:=by
 cases l with
 |nil=>exact absurd rfl h
 |cons y r=>rfl
theorem znR(s:Str)(c:UInt8)(hs:s.length≤17179869184):zaT s [c]=some (aft c (zG c s)):=by
 have hcl:=List.count_le_length (a:=c) (l:=s)
 have key:zaK s [c] 1 (-1)=some (aft c (zG c s)):=by
  unfold zaK;obtain⟨N,hN⟩:∃N,zib=N:=⟨_,rfl⟩;have hN2:1099511627776≤N:=hN ▸ zgC;rw[hN];clear hN
  have hmin:min ((s.count c+1:Nat):Int) ((s.length+1:Nat):Int)=((s.count c+1:Nat):Int):=by omega
  simp only[zaw,count_eq,zf,show decide ((-1:Int)=0)=false from rfl,show decide ((-1:Int)<0)=true from rfl,show decide (([c]:Str)=[])=false from rfl,cond_true,cond_false];simp only[ze2 (s.count c) (by omega),ze2 s.length (by omega),hmin];rw[zg (by omega)]
  have hw:IntKind.i64.wrap (((s.count c+1:Nat):Int)-1)=((s.count c:Nat):Int):=by rw[zdq (by omega) (by omega)];omega
  simp only[hw,Int.toNat_natCast]
  refine(zfc (S:=Str×Int×List Str) (fun st=>∃i:Nat,st.2.1=i∧st.2.2.length=s.count c+1∧st.1.length≤s.length∧i+st.1.count c=s.count c) (fun st=>s.count c-st.2.1.toNat)
   (fun st=>some (st.2.2.take st.2.1.toNat++aft c (zG c st.1))) ?_ N _ ⟨0,rfl,by simp,Nat.le_refl _,by simp⟩ (by simp only;omega)).trans ?_
  ·rintro⟨t,i',o⟩ nx ⟨i,rfl,ho,ht,hc⟩ hnx
   simp only at ho ht hc hnx⊢;simp only[zjm,zf]
   by_cases hi:i<s.count c
   ·have hmem:c∈t:=by rw[←List.count_pos_iff];omega
    obtain⟨h1,h2,h3⟩:=zaB hmem;have hl:=(zcx c t).2.2 h1;obtain⟨t1,t2⟩:=zj5 hmem;rw[decide_eq_true (by omega),cond_true,zk2 hmem,decide_eq_false (by omega),cond_false];have hw3:IntKind.i64.wrap (((zX c t).1.length:Int)+1)=(((zX c t).1.length+1:Nat):Int):=ze2 _ (by omega);have hw4:IntKind.i64.wrap (((zX c t).1.length:Int)+(([c]:Str).length:Int))=(((zX c t).1.length+1:Nat):Int):=ze2 _ (by omega);simp only[hw3,hw4,ze2 i (by omega),Int.toNat_natCast];rw[zg (by omega),zg (by omega),zg (by omega)];have hdc:=zh8 hmem
    have t3:t.take ((zX c t).1.length+1)=(zX c t).1++[c]:=by
     have:∀a b:Str,(a++c::b).take (a.length+1)=a++[c]:=by intro a b;simp[List.take_append];exact List.take_of_length_le (by omega)
     exact(congrArg (List.take _) h2).trans (this _ _)
    simp only[t3,t2];rw[hnx _ ⟨i+1,rfl,by simpa using ho,by simp only;omega,by simp only;omega⟩ (by simp only[Int.toNat_natCast];omega)];simp only[Int.toNat_natCast];rw[zkS o i _ (by omega)]
    congr 1
    rw[show zG c t=(zX c t).1::zG c (zX c t).2.1 by rw[zcq,if_pos h1],aft_cons c _ (zfO c _)];simp
   ·obtain rfl:i=s.count c:=by omega
    rw[decide_eq_false (by omega),cond_false]
    have hmem:c∉t:=by rw[←List.count_pos_iff];omega
    rw[zg (by omega),ze2 _ (by omega)];simp only[Int.toNat_natCast,List.length_set];rw[zg (by omega),zkS o _ _ (by omega),zex hmem];rfl
  ·simp
 unfold zaT
 rw[show((([c]:Str).length:Nat):Int)=1 from rfl,key];rfl
def pfx(p s:Str):Bool:=decide (s.take p.length=p)
theorem zfw(s p:Str):zay s p=some (bif pfx p s then(s.drop p.length,true)else(s,false)):=by
 unfold zay zaq zS pfx
 by_cases h:s.take p.length=p
 ·have hl:p.length≤s.length:=by have:=congrArg List.length h;rw[List.length_take]at this;omega
  rw[zg (by omega),zf,decide_eq_true (show(p.length:Int)≤(s.length:Int)by omega),decide_eq_true h];simp only[Bool.true_and,Bool.not_true,cond_false,cond_true];rw[zg (by omega)];rfl
 ·rw[zg (by intro q;have:=of_decide_eq_true q;omega),zf,decide_eq_false h,Bool.and_false]
  rfl
theorem zkv(x:Str)(c:UInt8)(h:x.length<1099511627776):zbH (x++[c]) [c]=some (x,true):=by
 unfold zbH zap zao
 have hl:(x++[c]).length=x.length+1:=by simp
 have hw:IntKind.i64.wrap (((x++[c]).length:Int)-(([c]:Str).length:Int))=(x.length:Int):=by
  rw[hl,show(([c]:Str).length:Int)=1 from rfl,zdq (by omega) (by omega)];omega
 rw[hw,zg (by intro _;omega),zf,decide_eq_true (show((([c]:Str).length:Nat):Int)≤(((x++[c]).length:Nat):Int)by rw[hl];show(1:Int)≤_;omega)];simp only[Int.toNat_natCast,List.drop_left,decide_true,Bool.true_and,Bool.not_true,cond_false];rw[zg (by omega),List.take_left];rfl
theorem pfx_nl{p x:Str}(h:(10:UInt8)∉p):pfx p (x++[10])=pfx p x:=by
 unfold pfx
 by_cases hl:p.length≤x.length
 ·rw[List.take_append_of_le_length hl]
 ·rw[decide_eq_false,decide_eq_false]
  ·intro e
   have:=congrArg List.length e;rw[List.length_take]at this;omega
  ·intro e
   rw[List.take_of_length_le (by simp;omega)]at e;exact h (e ▸ by simp)
theorem pfx_len{p x:Str}(h:pfx p x=true):p.length≤x.length:=by
 have:=congrArg List.length (of_decide_eq_true h);rw[List.length_take]at this;omega
def nl(x:Str):Str:=x++[10]
theorem line_bad(w:Str)(l:List Str):zE w l true=some ([],true,l):=rfl
theorem zof(w:Str)(b:Bool):zE w [] b=some ([],true,[]):=by
 unfold zE;rw[show decide ((([]:List Str).length:Int)=0)=true from rfl,Bool.or_true];rfl
theorem zlW(w x:Str)(r:List Str)(hw:(10:UInt8)∉w)(hl:w.length≤100)(hx:x.length≤17179869184) :
  zE w (nl x::r) false=some (bif pfx (w++[32]) x then x.drop (w++[32]).length else x,!pfx (w++[32]) x,r):=by
 unfold zE
 have h10:(10:UInt8)∉w++[32]:=by simp[hw]
 rw[show(false||decide (((nl x::r).length:Int)=0))=false from by rw[Bool.false_or];exact decide_eq_false (by simp only[List.length_cons];omega),cond_false];rw[show idx (nl x::r) 0=idx (nl x::r) ((0:Nat):Int)from rfl];rw[zd0 (by simp)];simp only[List.getElem_cons_zero];rw[zg (by simp;omega),zfw,zf];unfold nl;rw[pfx_nl h10];cases hp:pfx (w++[32]) x
 ·simp only[cond_false]
  rw[zkv _ _ (by omega),zf,zg (by simp only[List.length_cons];omega)];rfl
 ·have:=pfx_len hp
  simp only[cond_true];rw[List.drop_append_of_le_length this,zkv _ _ (by simp;omega),zf,zg (by simp only[List.length_cons];omega)];rfl
def zcj:List Str→Option (List api_Change)
 |[]=>some []
 |x::r=>match ziT x with
  |none=>none
  |some c=>match zcj r with
   |none=>none
   |some l=>some (c::l)
def cat(L:List Str):Str:=(L.map nl).flatten
theorem zdQ(x:Str)(L:List Str):cat (x::L)=x++10::cat L:=by simp[cat,nl]
theorem split_cat:∀(L:List Str),(∀x∈L,(10:UInt8)∉x)→zG 10 (cat L)=L++[[]]
 |[],_=>rfl
 |x::L,h=>by
  rw[zdQ,zij (h x (List.mem_cons_self ..)),split_cat L fun y hy=>h y (List.mem_cons_of_mem _ hy)];rfl
theorem zm4:∀(L:List Str) (n:Nat) (o:List api_Change),match zcj L with
  |some l=>zg0 n o (L++[[]])=.inr (o++l)
  |none=>∃k,zg0 n o (L++[[]])=.inl k
 |[],n,o=>by simp[zcj,zg0]
 |x::L,n,o=>by
  rw[List.cons_append,zjR _ _ _ _ (by simp)];unfold zcj
  cases hs:ziT x with
  |none=>exact⟨n,rfl⟩
  |some c =>
   have:=zm4 L (n+1) (o++[c])
   revert this
   cases zcj L with
   |none=>exact fun h=>h
   |some l=>intro h;simp only at h⊢;rw[h];simp
theorem parse_lines(L:List Str)(h:∀x∈L,(10:UInt8)∉x):match zcj L with
  |some l=>parseC (cat L)=bif !decide (zfn l=0)then([],0,zfn l)else(l,0,0)
  |none=>∃k,parseC (cat L)=([],k,8):=by
 have:=zm4 L 0 [];unfold parseC;rw[split_cat L h]
 revert this
 cases zcj L with
 |none=>rintro⟨k,e⟩;rw[e];exact⟨_,rfl⟩
 |some l=>intro e;simp only[List.nil_append]at e⊢;rw[e]
theorem c8{b:Bool}{x y:Int}(h:x≠8)(h':y≠8):(bif b then x else y)≠8:=by cases b <;> assumption
theorem eNeed_ne8(c:api_Change):zmc c≠8:=by
 unfold zmc zdN znq zoz
 repeat' first|refine c8 ?_ ?_|decide
theorem eCh_ne8(c:api_Change):eCh c≠8:=by
 unfold eCh;exact c8 (by decide) (c8 (by decide) (eNeed_ne8 c))
theorem eChs_ne8:∀(l:List api_Change),zfn l≠8
 |[]=>by decide
 |c::l=>by
  unfold zfn;cases h:!decide (eCh c=0)
  ·exact eChs_ne8 l
  ·exact eCh_ne8 c
def okP(w x:Str)(n:Nat):Bool:=pfx (w++[32]) x&&(numL 9 (x.drop (w++[32]).length)&&decide (val 0 (x.drop (w++[32]).length)≤n))
def cntP(w x:Str):Nat:=val 0 (x.drop (w++[32]).length)
def zcQ(w:Str):List Str→Option (List api_Change×List Str)
 |[]=>none
 |x::r=>bif okP w x r.length then(zcj (r.take (cntP w x))).map (fun cs=>(cs,r.drop (cntP w x)))else none
theorem zd9(w x:Str)(r:List Str):zcQ w (x::r)=bif okP w x r.length then(zcj (r.take (cntP w x))).map (fun cs=>(cs,r.drop (cntP w x)))else none:=rfl
theorem join_nil(L:List Str)(h:L.length≤4194304)(hs:(cat L).length≤4194304):zbk (L.map nl) []=some (cat L):=by
 cases L with
 |nil=>rfl
 |cons a l =>
  have e:((l.map nl).map List.length).sum+(nl a).length=(cat (a::l)).length:=by
   simp[cat,List.length_flatten];omega
  rw[List.map_cons,join_eq [] (nl a) (l.map nl) (by decide) (by simp only[List.length_map,List.length_cons]at h⊢;omega) (by omega)];simp[cat];rfl
theorem zeQ{w:Str}{L r:List Str}{cs:List api_Change}(h:zcQ w L=some (cs,r)):∃k,r=L.drop k:=by
 cases L with
 |nil=>cases h
 |cons x l =>
  rw[zd9]at h;cases ho:okP w x l.length
  ·rw[ho]at h;cases h
  ·rw[ho,cond_true,Option.map_eq_some_iff]at h
   obtain⟨c,_,e⟩:=h;cases e;exact⟨cntP w x+1,rfl⟩
theorem zmh(a b:List Str):cat (a++b)=cat a++cat b:=by simp[cat]
theorem cat_td(L:List Str)(k:Nat):(cat (L.take k)).length+(cat (L.drop k)).length=(cat L).length:=by
 rw[←List.length_append,←zmh,List.take_append_drop]
theorem zej(L:List Str)(k:Nat):(cat (L.drop k)).length≤(cat L).length:=by have:=cat_td L k;omega
theorem ziF(L:List Str)(k:Nat):(cat (L.take k)).length≤(cat L).length:=by have:=cat_td L k;omega
theorem ziE(L:List Str):L.length≤(cat L).length:=by
 induction L with
 |nil=>simp
 |cons x L ih=>rw[zdQ];simp;omega
theorem ziD{L:List Str}{x:Str}(h:x∈L):x.length≤(cat L).length:=by
 induction L with
 |nil=>cases h
 |cons y L ih =>
  rw[zdQ]
  rcases List.mem_cons.1 h with rfl|h
  ·simp
  ·have:=ih h;simp;omega
theorem ziA(w:Str)(l:List Str):∃a e r,zl w l true=some (a,e,r,true):=by
 unfold zl;rw[line_bad,zf,zdw,zf];exact⟨_,_,_,rfl⟩
def RdP(p:Option (List api_Change×List Str))(z:Option (List api_Change×Int×List Str×Bool)):Prop:=match p with
 |some q=>z=some (bif !decide (zfn q.1=0)then []else q.1,zfn q.1,q.2.map nl,false)
 |none=>∃a e r,z=some (a,e,r,true)
theorem znt(w:Str)(L:List Str)(hw:(10:UInt8)∉w)(hl:w.length≤100)(h10:∀x∈L,(10:UInt8)∉x)(hs:(cat L).length≤4194304) :
  RdP (zcQ w L) (zl w (L.map nl) false):=by
 unfold zl
 cases L with
 |nil=>rw[List.map_nil,zof,zf,zdw,zf];exact⟨_,_,_,rfl⟩
 |cons x r =>
  have hx:=ziD (List.mem_cons_self (a:=x) (l:=r));have hc:=ziE (x::r);simp only[List.length_cons]at hc;rw[List.map_cons,zlW w x _ hw hl (by omega)];have hk:okP w x r.length=(pfx (w++[32]) x&&(numL 9 (x.drop (w++[32]).length)&&decide (val 0 (x.drop (w++[32]).length)≤r.length))):=rfl
  have hno:okP w x r.length=false→zcQ w (x::r)=none:=fun h=>by rw[zd9,h];rfl
  cases hp:pfx (w++[32]) x
  ·rw[hp,Bool.false_and]at hk
   rw[hno hk,zf,zdw,zf];simp only[Bool.not_false,Bool.true_or,cond_true,cond_false];exact⟨_,_,_,rfl⟩
  rw[hp,Bool.true_and]at hk;rw[cond_true,Bool.not_true,zf];simp only;rw[zdw];cases hn:numL 9 (x.drop (w++[32]).length)
  ·rw[hn,Bool.false_and]at hk
   rw[hno hk,cond_false,zf];exact⟨_,_,_,rfl⟩
  rw[hn,Bool.true_and]at hk;rw[cond_true,zf];simp only[Bool.not_true,Bool.false_or]
  have hyes:okP w x r.length=true→zcQ w (x::r)=(zcj (r.take (val 0 (x.drop (w++[32]).length)))).map (fun cs=>(cs,r.drop (val 0 (x.drop (w++[32]).length)))):=fun h=>by rw[zd9,h];rfl
  revert hk hyes
  generalize val 0 (x.drop (w++[32]).length)=n;intro hk hyes;rw[List.length_map]
  by_cases hle:n≤r.length
  ·rw[decide_eq_true hle]at hk
   rw[hyes hk,decide_eq_false (show ¬ ((r.length:Int)<(n:Int))by omega),cond_false,zg (by omega)]
   have hs2:(cat r).length≤4194304:=by
    have:=zej (x::r) 1;simp only[List.drop_succ_cons,List.drop_zero]at this;omega
   have hs3:=ziF r n;simp only[Int.toNat_natCast];rw[←List.map_take,join_nil _ (by rw[List.length_take];omega) (by omega),zf,zke _ (by omega),zf,zg (by omega),←List.map_drop]
   have hp:=parse_lines (r.take n) fun y hy=>h10 y (List.mem_cons_of_mem _ (List.mem_of_mem_take hy))
   revert hp
   cases zcj (r.take n)with
   |none=>rintro⟨k,e⟩;rw[e];exact⟨_,_,_,rfl⟩
   |some cs =>
    intro e;simp only at e;rw[e]
    show _=some _
    have h8:=eChs_ne8 cs;cases he:decide (zfn cs=0)
    ·simp only[Bool.not_false,cond_true,decide_eq_false h8]
    ·simp only[Bool.not_true,cond_false,of_decide_eq_true he]
     rfl
  ·rw[decide_eq_false hle]at hk
   rw[hno hk,decide_eq_true (show(r.length:Int)<(n:Int)by omega),cond_true];exact⟨_,_,_,rfl⟩
theorem itoa_of{v:Str}(h:atoiE v=true):strconv_Itoa (zek v)=some (Go.Lib.itoa (zek v)):=by
 have hb:-9223372036854775808≤zek v∧zek v≤9223372036854775807:=by
  unfold atoiE at h;unfold zek
  cases e:Go.Lib.atoiAll v with
  |ok v=>exact Go.Lib.atoiAll_bounds e
  |_=>rw[e]at h;cases h
 unfold strconv_Itoa;exact zg hb _
theorem callG_itoa{Z:Type}(v:Str)(k:Str→Option Z):callG (!((!atoiE v)||decide (zek v<0))) (strconv_Itoa (zek v)) [] k=k (bif !((!atoiE v)||decide (zek v<0))then Go.Lib.itoa (zek v)else []):=by
 cases h:atoiE v
 ·rfl
 ·rw[itoa_of h,zad]
def toR(L o:Nat):Option (List api_Change×List Str)→List api_Change×Bool×Int
 |none=>([],false,(o:Int))
 |some q=>(q.1,true,((L-q.2.length:Nat):Int))
theorem R_counted(w:Str)(L:List Str)(o:Nat)(hl:w.length≤100)(hs:(cat L).length≤4194304) :
  zal w (o:Int) L=some (toR L.length o (zcQ w (L.drop o))):=by
 have hc:=ziE L;unfold zal
 by_cases ho:L.length≤o
 ·rw[decide_eq_true (by omega),cond_true,List.drop_eq_nil_of_le ho];rfl
 have ho':o<L.length:=by omega
 rw[decide_eq_false (by omega),cond_false,zd0 ho',List.drop_eq_getElem_cons ho',zg (by simp;omega),zfw];have hx:=ziD (List.getElem_mem ho');have hr:(L.drop (o+1)).length=L.length-(o+1):=List.length_drop;generalize L[o]=x at hx⊢;have hk:okP w x (L.drop (o+1)).length=(pfx (w++[32]) x&&(numL 9 (x.drop (w++[32]).length)&&decide (val 0 (x.drop (w++[32]).length)≤(L.drop (o+1)).length))):=rfl
 have hno:okP w x (L.drop (o+1)).length=false→zcQ w (x::L.drop (o+1))=none:=fun h=>by rw[zd9,h];rfl
 cases hp:pfx (w++[32]) x
 ·rw[hp,Bool.false_and]at hk
  rw[hno hk];rfl
 rw[hp,Bool.true_and]at hk;rw[cond_true,zf];simp only
 have hyes:okP w x (L.drop (o+1)).length=true→zcQ w (x::L.drop (o+1))=(zcj ((L.drop (o+1)).take (val 0 (x.drop (w++[32]).length)))).map (fun cs=>(cs,(L.drop (o+1)).drop (val 0 (x.drop (w++[32]).length)))):=fun h=>by rw[zd9,h];rfl
 revert hk hyes
 generalize x.drop (w++[32]).length=v;intro hk hyes
 have hw:IntKind.i64.wrap (IntKind.i64.wrap ((L.length:Int)-(o:Int))-1)=((L.drop (o+1)).length:Int):=by
  rw[hr,zdq (n:=(L.length:Int)-(o:Int)) (by omega) (by omega),zdq (by omega) (by omega)];omega
 obtain⟨q1,q2⟩:=R_count v ((L.drop (o+1)).length:Int) (by omega);rw[show zev v=some (zek v,atoiE v)from rfl,zf];simp only[Bool.not_true,Bool.false_or];rw[callG_itoa,hw,q1];cases hn:numL 9 v
 ·rw[hn,Bool.false_and]at hk
  rw[hno hk];rfl
 rw[hn,Bool.true_and]at hk;rw[q2 hn];simp only[Bool.not_true,Bool.false_or]
 revert hk hyes
 generalize val 0 v=n;intro hk hyes
 by_cases hle:n≤(L.drop (o+1)).length
 ·rw[decide_eq_true hle]at hk
  rw[hyes hk,decide_eq_false (by omega),cond_false,zaw,ze2 o (by omega)]
  have hw2:IntKind.i64.wrap (((o+1:Nat):Int)+(n:Int))=((o+1+n:Nat):Int):=by rw[zdq (by omega) (by omega)];omega
  have hw3:IntKind.i64.wrap ((o:Int)+IntKind.i64.wrap (1+(n:Int)))=((o+1+n:Nat):Int):=by rw[zdq (n:=1+(n:Int)) (by omega) (by omega),zdq (by omega) (by omega)];omega
  rw[hw2,hw3,zg (by omega)];simp only[Int.toNat_natCast];rw[show o+1+n-(o+1)=n by omega]
  refine(zhD (fun i l (s:List api_Change)=>(∀y∈l,y.length≤17179869184)∧s.length+l.length≤4194304) (fun i l s=>match zcj l with
   |none=>some ([],false,(o:Int))
   |some cs=>some (s++cs,true,((o+1+n:Nat):Int))) (fun i s h=>by simp[zcj]) (fun i y l s nx h hnx=>?_) _ 0 [] ⟨fun y hy=>?_,?_⟩).trans ?_
  ·obtain⟨c,e1,e2⟩:=changeOf_eq y (h.1 y (List.mem_cons_self ..))
   have h2:=h.2;simp only[List.length_cons]at h2;rw[e1,zf];unfold zcj ziT;cases hok:okD y
   ·rfl
   ·obtain rfl:=e2 hok
    simp only[Bool.not_true,cond_false,cond_true];rw[zg (by simp;omega),hnx _ ⟨fun z hz=>h.1 z (List.mem_cons_of_mem _ hz),by simp;omega⟩]
    cases zcj l with
    |none=>rfl
    |some cs=>simp
  ·have:=ziD (List.mem_of_mem_drop (List.mem_of_mem_take hy))
   omega
  ·simp only[List.length_nil,List.length_take];omega
  ·cases zcj ((L.drop (o+1)).take n)with
   |none=>rfl
   |some cs =>
    simp only[List.nil_append,Option.map_some,toR,List.length_drop];rw[show L.length-(L.length-(o+1)-n)=o+1+n by omega]
 ·rw[decide_eq_false hle]at hk
  rw[hno hk,decide_eq_true (by omega),cond_true];rfl
theorem unq_back{s t:Str}(h:zkA s=(t,0)):ze4 t=s:=by
 unfold zkA at h;cases hq:zi1 s
 ·rw[hq]at h;cases h
 ·rw[hq,cond_true]at h
  unfold fin at h
  cases hu:zjH (mid s)with
  |none=>rw[hu]at h;cases h
  |some u =>
   rw[hu]at h;cases h;have:=zlB s hq;rw[←zie hu]at this;rw[this];rfl
theorem zld{s:Str}(h:decide ((zkA s).2=0)=true):ze4 (zkA s).1=s :=
 unq_back (by have:=of_decide_eq_true h;rw[←this])
theorem bit_back{b:Str}(h:bitS b=true):bitW (decide (b=([49]:Str)))=b:=by
 unfold bitS at h;rw[Bool.or_eq_true,decide_eq_true_eq,decide_eq_true_eq]at h
 rcases h with rfl|rfl <;> rfl
theorem split3{s a b c:Str}(h:zG 32 s=[a,b,c]):s=a++32::(b++32::c):=by
 rw[zcq]at h;split at h
 ·rename_i h1
  obtain⟨e1,e2,_⟩:=zaB (c:=32) (s:=s) (by
   apply Classical.byContradiction;intro hn;rw[zbj hn]at h1;cases h1)
  rw[List.cons.injEq]at h;obtain⟨rfl,h⟩:=h;rw[zcq]at h;split at h
  ·rename_i h3
   obtain⟨e3,e4,_⟩:=zaB (c:=32) (s:=(zX 32 s).2.1) (by
    apply Classical.byContradiction;intro hn;rw[zbj hn]at h3;cases h3)
   rw[List.cons.injEq]at h;obtain⟨rfl,h⟩:=h
   have hc:(zX 32 (zX 32 s).2.1).2.1=c:=by
    rw[zcq]at h;split at h
    ·rw[List.cons.injEq]at h
     exact absurd h.2 (zfO _ _)
    ·rw[List.cons.injEq]at h
     exact h.1
   rw[←hc,←e4,←e2]
  ·cases h
 ·cases h
theorem line_back(l:Str)(h:okD l=true):zmL (chD l)=l:=by
 unfold okD at h;rw[Bool.and_eq_true]at h;obtain⟨h1,h2⟩:=h
 have hg:(!(zX 32 l).2.2||decide (zbM l=[]))=false:=by
  cases hg:(!(zX 32 l).2.2||decide (zbM l=[]))
  ·rfl
  ·unfold zd8 at h1
   dsimp only at h1;rw[hg]at h1;cases h1
 have ha:(zX 32 l).2.2=true:=by
  cases ha:(zX 32 l).2.2
  ·rw[ha]at hg;cases hg
  ·rfl
 have hl:l=zdt l++32::zaX l:=by
  refine(zaB (c:=32) (s:=l) ?_).2.1
  apply Classical.byContradiction;intro hn;rw[zbj hn]at ha;cases ha
 have hr2:zce l=true→zaX l=zbM l++32::za8 l:=fun ht=>by
  refine(zaB (c:=32) (s:=zaX l) ?_).2.1
  apply Classical.byContradiction;intro hn;unfold zce at ht;rw[zbj hn]at ht;cases ht
 have hr1:zce l=false→zbM l=zaX l:=fun ht=>rest_two l ht
 have hrd:∀w,zdt l=w→zd8 l=(let k:=zbM l;let u:=zkA (za8 l)
   bif decide (w=wFact)||decide (w=wSet)then(⟨w,zaQ,⟨k,u.1⟩,zcf⟩,zce l&&decide (u.2=0))else
   bif ((decide (w=wFile)||decide (w=wRun))||decide (w=wPut))||decide (w=zc6)then(⟨w,⟨k,u.1,decide (w=wRun)||decide (w=zc6)⟩,zeg,zcf⟩,zce l&&decide (u.2=0))else
   bif decide (w=zcD)then(match zce l,svc3 k (zG 32 (za8 l))with
    |true,some s=>(⟨w,zaQ,zeg,s⟩,true)
    |_,_=>(⟨[],zaQ,zeg,zcf⟩,false))else
   bif decide (w=zd2)then(⟨w,⟨k,[],false⟩,zeg,zcf⟩,!zce l)else
   bif decide (w=zfK)then(⟨w,zaQ,⟨k,[]⟩,zcf⟩,!zce l)else
   bif decide (w=zjG)then(⟨w,zaQ,zeg,⟨k,[],false,false⟩⟩,!zce l)else
   (⟨w,zaQ,zeg,zcf⟩,!zce l)):=fun w e=>by
  unfold zd8
  simp only[hg,cond_false,e] <;> rfl
 by_cases w1:zdt l=wPut
 ·have e:zd8 l=(⟨wPut,⟨zbM l,(zkA (za8 l)).1,false⟩,zeg,zcf⟩,zce l&&decide ((zkA (za8 l)).2=0)):=hrd _ w1
  rw[e,Bool.and_eq_true]at h1;unfold chD;rw[e]
  show wPut++32::(zbM l++32::ze4 (zkA (za8 l)).1)=l
  rw[zld h1.2,←hr2 h1.1,←w1,←hl]
 by_cases w2:zdt l=zc6
 ·have e:zd8 l=(⟨zc6,⟨zbM l,(zkA (za8 l)).1,true⟩,zeg,zcf⟩,zce l&&decide ((zkA (za8 l)).2=0)):=hrd _ w2
  rw[e,Bool.and_eq_true]at h1;unfold chD;rw[e]
  show zc6++32::(zbM l++32::ze4 (zkA (za8 l)).1)=l
  rw[zld h1.2,←hr2 h1.1,←w2,←hl]
 by_cases w3:zdt l=zd2
 ·have e:zd8 l=(⟨zd2,⟨zbM l,[],false⟩,zeg,zcf⟩,!zce l):=hrd _ w3
  rw[e,Bool.not_eq_true']at h1;unfold chD;rw[e]
  show zd2++32::zbM l=l
  rw[hr1 h1,←w3,←hl]
 by_cases w4:zdt l=wSet
 ·have e:zd8 l=(⟨wSet,zaQ,⟨zbM l,(zkA (za8 l)).1⟩,zcf⟩,zce l&&decide ((zkA (za8 l)).2=0)):=hrd _ w4
  rw[e,Bool.and_eq_true]at h1;unfold chD;rw[e]
  show wSet++32::(zbM l++32::ze4 (zkA (za8 l)).1)=l
  rw[zld h1.2,←hr2 h1.1,←w4,←hl]
 by_cases w5:zdt l=zfK
 ·have e:zd8 l=(⟨zfK,zaQ,⟨zbM l,[]⟩,zcf⟩,!zce l):=hrd _ w5
  rw[e,Bool.not_eq_true']at h1;unfold chD;rw[e]
  show zfK++32::zbM l=l
  rw[hr1 h1,←w5,←hl]
 by_cases w7:zdt l=zjG
 ·have e:zd8 l=(⟨zjG,zaQ,zeg,⟨zbM l,[],false,false⟩⟩,!zce l):=hrd _ w7
  rw[e,Bool.not_eq_true']at h1;unfold chD;rw[e]
  show zjG++32::zbM l=l
  rw[hr1 h1,←w7,←hl]
 by_cases w6:zdt l=zcD
 ·have e:zd8 l=(match zce l,svc3 (zbM l) (zG 32 (za8 l))with
    |true,some s=>(⟨zcD,zaQ,zeg,s⟩,true)
    |_,_=>(⟨[],zaQ,zeg,zcf⟩,false)):=hrd _ w6
  cases ht:zce l
  ·rw[ht]at e;rw[e]at h1;cases h1
  cases hs:svc3 (zbM l) (zG 32 (za8 l))with
  |none=>rw[ht,hs]at e;rw[e]at h1;cases h1
  |some s =>
   rw[ht,hs]at e;unfold chD;rw[e]
   show zcD++32::(s.Name++32::(s.Path++32::(bitW s.Auto++32::bitW s.On)))=l
   unfold svc3 at hs;split at hs
   ·rename_i a b c hsp
    cases hb:(decide (a=[])||!bitS b)||!bitS c
    ·rw[hb,cond_false]at hs
     cases hs;simp only[Bool.or_eq_false_iff,Bool.not_eq_false']at hb;simp only;rw[bit_back hb.1.2,bit_back hb.2,←split3 hsp,←hr2 ht,←w6,←hl]
    ·rw[hb]at hs;cases hs
   ·cases hs
 ·exfalso
  have hw:(zd8 l).1.word=zdt l:=by
   rw[hrd _ rfl];simp only[decide_eq_false w1,decide_eq_false w2,decide_eq_false w3,decide_eq_false w4,decide_eq_false w5,decide_eq_false w6,decide_eq_false w7,Bool.or_false,cond_false];cases decide (zdt l=wFact)
   ·cases decide (zdt l=wFile)||decide (zdt l=wRun) <;> rfl
   ·rfl
  rw[hw]at h2;unfold zmM at h2;simp only[decide_eq_false w1,decide_eq_false w2,decide_eq_false w3,decide_eq_false w4,decide_eq_false w5,decide_eq_false w6,decide_eq_false w7,Bool.or_false,cond_false]at h2;cases h2
theorem zjK:∀(L:List Str) {cs:List api_Change},zcj L=some cs→zb1 cs=cat L∧cs.length=L.length
 |[],cs,h=>by cases h;exact⟨rfl,rfl⟩
 |x::L,cs,h=>by
  unfold zcj at h
  cases hs:ziT x with
  |none=>rw[hs]at h;cases h
  |some c =>
   cases hr:zcj L with
   |none=>rw[hs,hr]at h;cases h
   |some l =>
    rw[hs,hr]at h;cases h;obtain⟨e1,e2⟩:=zjK L hr;obtain⟨o1,rfl⟩:=zhv hs;rw[zgt,zdQ,line_back x o1,e1];exact⟨by simp,by simp[e2]⟩
theorem zn0{p x:Str}(h:pfx p x=true):x=p++x.drop p.length:=by
 have:=of_decide_eq_true h
 conv=>lhs;rw[←List.take_append_drop p.length x,this]
theorem zm0{w:Str}{L r:List Str}{cs:List api_Change}(h:zcQ w L=some (cs,r)):cat L=zhN w cs++cat r:=by
 cases L with
 |nil=>cases h
 |cons x l =>
  rw[zd9]at h;cases ho:okP w x l.length
  ·rw[ho]at h;cases h
  ·rw[ho,cond_true,Option.map_eq_some_iff]at h
   obtain⟨c,hs,e⟩:=h;cases e;unfold okP at ho;rw[Bool.and_eq_true,Bool.and_eq_true]at ho;obtain⟨h1,h2,h3⟩:=ho;have h3:cntP w x≤l.length:=of_decide_eq_true h3;obtain⟨e1,e2⟩:=zjK _ hs;obtain⟨_,_,_,hv⟩:=numL_val h2;have hx:=zn0 h1;unfold zhN;rw[e2,List.length_take,Nat.min_eq_left h3,zk3 (by omega),Int.toNat_natCast]
   show cat (x::l)=w++32::(Go.Lib.decDigits (val 0 (x.drop (w++[32]).length))++10::zb1 cs)++cat (l.drop (cntP w x))
   rw[hv,e1,zdQ]
   have hcl:cat l=cat (l.take (cntP w x))++cat (l.drop (cntP w x)):=by rw[←zmh,List.take_append_drop]
   rw[hcl];generalize cntP w x=n
   conv=>lhs;rw[hx]
   simp
theorem pieces:∀(n:Nat) (s:Str),s.length≤n→∃L t,zG 10 s=L++[t]∧s=cat L++t∧(∀x∈L,(10:UInt8)∉x)∧(10:UInt8)∉t:=by
 intro n
 induction n with
 |zero =>
  intro s h;obtain rfl:=List.length_eq_zero_iff.1 (Nat.le_zero.1 h);exact⟨[],[],rfl,rfl,by simp,by simp⟩
 |succ n ih =>
  intro s h
  by_cases hm:(10:UInt8)∈s
  ·obtain⟨h1,h2,h3⟩:=zaB hm
   have hl:=(zcx 10 s).2.2 h1;obtain⟨L,t,e1,e2,e3,e4⟩:=ih (zX 10 s).2.1 (by omega);refine⟨(zX 10 s).1::L,t,?_,?_,?_,e4⟩
   ·rw[zcq,if_pos h1,e1];rfl
   ·rw[zdQ,List.append_assoc,List.cons_append,←e2];exact h2
   ·intro x hx
    rcases List.mem_cons.1 hx with rfl|hx
    ·exact h3
    ·exact e3 x hx
  ·exact⟨[],s,zex hm,rfl,by simp,hm⟩
theorem aft_app(c:UInt8):∀(L:List Str) (t:Str),aft c (L++[t])=L.map (fun x=>x++[c])++[t]
 |[],t=>rfl
 |x::L,t=>by rw[List.cons_append,aft_cons c x (by simp),aft_app c L t];rfl
def hexB(c:UInt8):Bool:=(decide (48≤(c.toNat:Int))&&decide ((c.toNat:Int)≤57))||(decide (97≤(c.toNat:Int))&&decide ((c.toNat:Int)≤102))
def zjk(s:Str):Bool:=s.all hexB&&decide ((s.length:Int)=16)
theorem hexB_not(c:UInt8):(((decide ((c.toNat:Int)<48))||(decide (57<(c.toNat:Int))))&&((decide ((c.toNat:Int)<97))||(decide (102<(c.toNat:Int)))))=!hexB c:=by
 unfold hexB;rw[Bool.eq_iff_iff];simp only[Bool.and_eq_true,Bool.or_eq_true,decide_eq_true_eq,Bool.not_eq_true',Bool.or_eq_false_iff,Bool.and_eq_false_iff,decide_eq_false_iff_not];omega
theorem R_IsSum_eq(s:Str):zmw s=some (zjk s):=by
 unfold zmw zjk;simp only[zaw];rw[zc4 hexB (fun i x nx k=>by rw[hexB_not,zmR,Bool.not_not])]
 cases s.all hexB <;> rfl
def ZJ:api_Journal:=⟨[],[],[]⟩
def endJ(j:api_Journal)(n:Nat):api_Journal×Int :=
 bif !zbe j.Id then(ZJ,5)else bif !decide (eJ j=0)then(ZJ,eJ j)else bif decide (65536<(n:Int))then(ZJ,4)else(j,0)
def PJ4(L:List Str)(j:api_Journal)(y:Str):api_Journal×Int :=
 bif !pfx (wSum++[32]) y||!zjk (y.drop 4)then(ZJ,8)else bif !decide (sumS (cat L.dropLast)=y.drop 4)then(ZJ,14)else endJ j (cat L).length
def PJ3(L:List Str)(id:Str)(c:List api_Change):Option (List api_Change×List Str)→api_Journal×Int
 |none=>(ZJ,8)
 |some q=>match q.2 with
  |[y]=>PJ4 L ⟨id,c,q.1⟩ y
  |_=>(ZJ,8)
def PJ2(L:List Str)(id:Str):Option (List api_Change×List Str)→api_Journal×Int
 |none=>(ZJ,8)
 |some q=>PJ3 L id q.1 (zcQ zkQ q.2)
def PJ(L:List Str)(t:Str):api_Journal×Int :=
 bif !decide (t=[])then(ZJ,8)else match L with
  |[]=>(ZJ,8)
  |x::r=>bif !pfx (wJou++[32]) x then(ZJ,8)else PJ2 L (x.drop 8) (zcQ zlb r)
theorem cut_lines(s:Str)(hs:s.length≤4194304){L:List Str}{t:Str}(h:zG 10 s=L++[t]):zgg s=some (bif decide (t=[])then(L,-1)else(L++[t],(L.length:Int))):=by
 have hc:=zmD 10 s;have hcl:=List.count_le_length (a:=(10:UInt8)) (l:=s);rw[h,List.length_append,List.length_singleton]at hc;unfold zgg;rw[ziU s 10 (by omega),zf,h]
 have hw:IntKind.i64.wrap (((L++[t]).length:Int)-1)=(L.length:Int):=by
  rw[List.length_append,List.length_singleton,zdq (by omega) (by omega)];omega
 rw[hw,zd0 (by simp)];simp only[List.getElem_append_right (Nat.le_refl _),Nat.sub_self,List.getElem_singleton];rw[zg (by simp;omega)];simp only[Int.toNat_natCast,List.take_left];exact zeX _ _ _
theorem unq_len(s:Str):(zkA s).1.length≤s.length:=by
 unfold zkA;cases zi1 s
 ·simp
 ·rw[cond_true]
  cases hu:zjH (mid s)with
  |none=>simp[fin]
  |some u =>
   have h1:=zie hu;have h2:=body_ge u;rw[h1]at h2
   have h3:(mid s).length≤s.length:=by unfold mid;simp;omega
   simp only[fin];omega
def QD(N:Nat)(x:disk_line×Bool):Prop:=x.1.file.Data.length≤N∧x.1.setting.Value.length≤N
theorem QB{N:Nat}{b:Bool}{x y:disk_line×Bool}(h:QD N x)(h':QD N y):QD N (bif b then x else y):=by cases b <;> assumption
theorem readS_sm(l:Str):QD l.length (zd8 l):=by
 have h1:=unq_len (za8 l);have h2:=(keyOf_len l).2;unfold zd8;refine QB ⟨Nat.zero_le _,Nat.zero_le _⟩ (QB ⟨Nat.zero_le _,Nat.le_trans h1 h2⟩ (QB ⟨Nat.le_trans h1 h2,Nat.zero_le _⟩ (QB ?_ (QB ⟨Nat.zero_le _,Nat.zero_le _⟩ (QB ⟨Nat.zero_le _,Nat.zero_le _⟩ (QB ⟨Nat.zero_le _,Nat.zero_le _⟩ ⟨Nat.zero_le _,Nat.zero_le _⟩))))));split
 ·exact⟨Nat.zero_le _,Nat.zero_le _⟩
 ·exact⟨Nat.zero_le _,Nat.zero_le _⟩
theorem chD_smD(l:Str)(hl:l.length≤4194304):SmD (chD l):=by
 have:=readS_sm l;exact⟨by have:=this.1;unfold chD;simp only;omega,by have:=this.2;unfold chD;simp only;omega⟩
theorem zlo:∀(L:List Str) {cs:List api_Change},zcj L=some cs→∀c∈cs,∃x∈L,c=chD x
 |[],cs,h,c,hc=>by cases h;cases hc
 |x::L,cs,h,c,hc=>by
  unfold zcj at h
  cases hs:ziT x with
  |none=>rw[hs]at h;cases h
  |some d =>
   cases hr:zcj L with
   |none=>rw[hs,hr]at h;cases h
   |some l =>
    rw[hs,hr]at h;cases h
    rcases List.mem_cons.1 hc with rfl|hc
    ·exact⟨x,List.mem_cons_self ..,(zhv hs).2⟩
    ·obtain⟨y,hy,e⟩:=zlo L hr c hc
     exact⟨y,List.mem_cons_of_mem _ hy,e⟩
theorem steps_sm{L:List Str}{cs:List api_Change}(h:zcj L=some cs)(hs:(cat L).length≤4194304):SmL cs:=by
 obtain⟨e1,e2⟩:=zjK L h;have hl:=ziE L;refine⟨fun c hc=>?_,fun c hc=>?_,by rw[e1];exact hs,by omega⟩
 ·obtain⟨x,hx,rfl⟩:=zlo L h c hc
  have:=ziD hx;exact chD_sm x (by omega)
 ·obtain⟨x,hx,rfl⟩:=zlo L h c hc
  have:=ziD hx;exact chD_smD x (by omega)
theorem zhx{w:Str}{L r:List Str}{cs:List api_Change}(h:zcQ w L=some (cs,r))(hs:(cat L).length≤4194304):SmL cs∧r.length+1≤L.length∧(cat r).length≤(cat L).length∧r=L.drop (L.length-r.length):=by
 cases L with
 |nil=>cases h
 |cons x l =>
  rw[zd9]at h;cases ho:okP w x l.length
  ·rw[ho]at h;cases h
  ·rw[ho,cond_true,Option.map_eq_some_iff]at h
   obtain⟨c,hc,e⟩:=h;cases e;unfold okP at ho;rw[Bool.and_eq_true,Bool.and_eq_true]at ho;have h3:cntP w x≤l.length:=of_decide_eq_true ho.2.2;have h0:(cat l).length≤(cat (x::l)).length:=zej (x::l) 1;have h1:=ziF l (cntP w x);have h2:=zej l (cntP w x);refine⟨steps_sm hc (by omega),by simp,by omega,?_⟩
   have:(x::l).length-(l.drop (cntP w x)).length=cntP w x+1:=by simp;omega
   rw[this];rfl
theorem PJ_short{L:List Str}(hs:(cat L).length≤4194304)(h:L.length<4):PJ L []=(ZJ,8):=by
 unfold PJ
 cases L with
 |nil=>rfl
 |cons x r =>
  simp only[decide_true,Bool.not_true,cond_false];cases pfx (wJou++[32]) x
  ·rfl
  have h0:(cat r).length≤(cat (x::r)).length:=zej (x::r) 1
  cases h1:zcQ zlb r with
  |none=>rfl
  |some q =>
   obtain⟨c,r1⟩:=q;obtain⟨_,a1,a2,_⟩:=zhx h1 (by omega)
   show PJ3 (x::r) (x.drop 8) c (zcQ zkQ r1)=_
   cases h2:zcQ zkQ r1 with
   |none=>rfl
   |some q =>
    obtain⟨o,r2⟩:=q;obtain⟨_,b1,_,_⟩:=zhx h2 (by omega);simp only[List.length_cons]at h;obtain rfl:r2=[]:=List.length_eq_zero_iff.1 (by omega);rfl
theorem join10{L:List Str}(hne:L≠[])(hs:(cat L).length≤4194304):∃z,zbk L [10]=some z∧z++[10]=cat L:=by
 have hl:=ziE L
 cases L with
 |nil=>exact absurd rfl hne
 |cons a l =>
  have e:(l.map List.length).sum+a.length≤(cat (a::l)).length:=by
   have:∀l:List Str,(l.map List.length).sum≤(cat l).length:=by
    intro l
    induction l with
    |nil=>simp[cat]
    |cons x l ih=>rw[zdQ];simp;omega
   rw[zdQ];have:=this l
   simp;omega
  refine⟨_,join_eq [10] a l (by decide) (by simp only[List.length_cons]at hl;omega) (by omega),?_⟩
  have:∀(l:List Str) (a:Str),a++(l.map (([10]:Str)++·)).flatten++[10]=cat (a::l):=by
   intro l
   induction l with
   |nil=>intro a;simp[cat,nl]
   |cons x l ih =>
    intro a;rw[zdQ,←ih x];simp
  exact this l a
theorem endJ_eq(j:api_Journal)(s:Str)(hp:eJ j=0→zgN j=s):endJ j s.length=(bif !decide ((pJ j).2=0)then(ZJ,(pJ j).2)else bif !decide ((pJ j).1=s)then(ZJ,8)else(j,0)):=by
 unfold endJ pJ;cases zbe j.Id
 ·rfl
 simp only[Bool.not_true,cond_false];cases he:decide (eJ j=0)
 ·simp only[Bool.not_false,cond_true,he]
 ·have h:=hp (of_decide_eq_true he)
  simp only[Bool.not_true,cond_false,h];cases decide (65536<(s.length:Int))
  ·simp
  ·rfl
theorem print_back{x y:Str}{r r1:List Str}{c o:List api_Change}(hx:pfx (wJou++[32]) x=true)(h1:zcQ zlb r=some (c,r1))(h2:zcQ zkQ r1=some (o,[y]))
  (hy:pfx (wSum++[32]) y=true) (hs:sumS (cat ((x::r).dropLast))=y.drop 4):zgN ⟨x.drop 8,c,o⟩=cat (x::r):=by
 have e1:=zm0 h1;have e2:=zm0 h2;have ex:=zn0 hx;have ey:=zn0 hy
 have hr:∃q,r=q++[y]:=by
  obtain⟨k,rfl⟩:=zeQ h1;obtain⟨m,hm⟩:=zeQ h2;rw[List.drop_drop]at hm;exact⟨r.take (k+m),by rw[hm,List.take_append_drop]⟩
 obtain⟨q,rfl⟩:=hr
 have hdl:(x::(q++[y])).dropLast=x::q:=by
  rw[show(x::(q++[y]))=(x::q)++[y]from rfl,List.dropLast_concat]
 rw[hdl]at hs
 have hc:cat q=zhN zlb c++zhN zkQ o:=by
  have:cat q++cat [y]=(zhN zlb c++zhN zkQ o)++cat [y]:=by
   rw[←zmh,e1,e2,List.append_assoc]
  exact List.append_cancel_right this
 have hb:zhT ⟨x.drop 8,c,o⟩=cat (x::q):=by
  rw[zdQ,hc]
  show wJou++32::(x.drop 8++10::(zhN zlb c++zhN zkQ o))=_
  conv=>rhs;rw[ex]
  simp[wJou]
 unfold zgN sealJ;rw[hb,hs,show(x::(q++[y]))=(x::q)++[y]from rfl,zmh]
 congr 1
 show _=cat [y]
 rw[zdQ]
 conv=>rhs;rw[ey]
 simp[wSum,cat]
theorem R_PJ(s:Str)(hs:s.length≤4194304){L:List Str}{t:Str}(h:zG 10 s=L++[t])(e:s=cat L++t):za7 s=some (PJ L t):=by
 unfold za7;rw[cut_lines s hs h,zf]
 by_cases ht:t=[]
 ·subst ht
  rw[List.append_nil]at e;subst e;simp only[decide_true,cond_true]
  by_cases h4:L.length<4
  ·rw[PJ_short hs h4,show(decide (0≤(-1:Int))||decide ((L.length:Int)<4))=true from by rw[decide_eq_true (show(L.length:Int)<4 by omega),Bool.or_true]]
   rfl
  rw[show(decide (0≤(-1:Int))||decide ((L.length:Int)<4))=false from by rw[decide_eq_false (show ¬ (L.length:Int)<4 by omega)];rfl,cond_false]
  cases L with
  |nil=>exact absurd (show 0<4 by decide) h4
  |cons x r =>
  rw[show idx (x::r) 0=idx (x::r) ((0:Nat):Int)from rfl,zd0 (by simp)];simp only[List.getElem_cons_zero];rw[show([106,111,117,114,110,97,108,32]:Str)=wJou++[32]from rfl,zfw];cases hp:pfx (wJou++[32]) x
  ·rw[show PJ (x::r) []=(ZJ,8)from by unfold PJ;simp only[hp];rfl]
   rfl
  have hPJ:PJ (x::r) []=PJ2 (x::r) (x.drop 8) (zcQ zlb r):=by unfold PJ;simp only[hp];rfl
  have h0:(cat r).length≤(cat (x::r)).length:=zej (x::r) 1;have hR:zal [99,104,97,110,103,101,115] 1 (x::r)=some (toR (x::r).length 1 (zcQ zlb r)):=R_counted zlb (x::r) 1 (by decide) hs;rw[cond_true,zf,hPJ,hR,zf]
  cases h1:zcQ zlb r with
  |none=>rfl
  |some p =>
  obtain⟨c,r1⟩:=p;obtain⟨s1,a1,a2,a3⟩:=zhx h1 (by omega)
  have hd:(x::r).drop ((x::r).length-r1.length)=r1:=by
   rw[show(x::r).length-r1.length=(r.length-r1.length)+1 by simp only[List.length_cons];omega,List.drop_succ_cons,←a3]
  have hR2:zal [111,108,100] (((x::r).length-r1.length:Nat):Int) (x::r)=some (toR (x::r).length ((x::r).length-r1.length) (zcQ zkQ r1)):=by
   have:=R_counted zkQ (x::r) ((x::r).length-r1.length) (by decide) hs;rw[hd]at this;exact this
  simp only[toR,zaw,cond_true];rw[hR2,zf]
  show _=some (PJ3 (x::r) (x.drop 8) c (zcQ zkQ r1))
  cases h2:zcQ zkQ r1 with
  |none=>rfl
  |some p =>
  obtain⟨o,r2⟩:=p;obtain⟨s2,b1,b2,b3⟩:=zhx h2 (by omega);have hl:=ziE (x::r)
  have hw:IntKind.i64.wrap (((x::r).length:Int)-1)=(((x::r).length-1:Nat):Int):=by
   rw[zdq (by omega) (by omega)];simp only[List.length_cons];omega
  simp only[toR,hw,Bool.not_true,Bool.or_self,Bool.false_or]
  rcases r2 with _|⟨y,_|⟨z,r2⟩⟩
  ·rw[decide_eq_false (by simp only[List.length_cons,List.length_nil];omega)]
   rfl
  ·have hr:∃q,r=q++[y]:=by
    obtain⟨k,e1⟩:=zeQ h1;obtain⟨m,hm⟩:=zeQ h2;rw[e1,List.drop_drop]at hm;exact⟨r.take (k+m),by rw[hm,List.take_append_drop]⟩
   obtain⟨q,hq⟩:=hr
   have hi:(x::r).length-[y].length<(x::r).length:=by simp
   have hg:(x::r)[(x::r).length-[y].length]=y:=by
    subst hq;simp
   have hdl:(x::r).take ((x::r).length-[y].length)=(x::r).dropLast:=by
    rw[List.dropLast_eq_take];rfl
   have hbk:=print_back hp h1 h2;rw[decide_eq_true (show(((x::r).length-[y].length:Nat):Int)=(((x::r).length-1:Nat):Int)from rfl),Bool.not_true,cond_false,zd0 hi,hg];rw[show([115,117,109,32]:Str)=wSum++[32]from rfl,zfw]
   show _=some (PJ4 (x::r) ⟨x.drop 8,c,o⟩ y)
   unfold PJ4;cases hy:pfx (wSum++[32]) y
   ·rfl
   rw[cond_true,zf];simp only;rw[R_IsSum_eq,zad]
   show(bif (!zjk (y.drop 4))then(some (ZJ,(8:Int)))else
    chk (0≤(((x::r).length-[y].length:Nat):Int)∧(((x::r).length-[y].length:Nat):Int)≤((x::r).length:Int)) <|
    call (zbk (List.take ((x::r).length-[y].length) (x::r)) [10]) fun r_19 =>
    chk ((r_19++([10]:Str)).length≤274877906944) <|
    call (ziJ (r_19++([10]:Str))) fun r_21 =>
    bif !decide (r_21=y.drop 4)then some (ZJ,14)else
    call (zaF ⟨x.drop 8,c,o⟩) fun r_23 =>
    bif !decide (r_23.2=0)then some (ZJ,r_23.2)else
    bif !decide (r_23.1=cat (x::r))then some (ZJ,8)else some (⟨x.drop 8,c,o⟩,0))=_
   cases hS:zjk (y.drop 4)
   ·rfl
   simp only[Bool.not_true,cond_false]
   have hne:(x::r).dropLast≠[]:=by subst hq;rw[show(x::(q++[y]))=(x::q)++[y]from rfl,List.dropLast_concat];simp
   have hsz:(cat ((x::r).dropLast)).length≤4194304:=by
    rw[←hdl];have:=ziF (x::r) ((x::r).length-[y].length);omega
   obtain⟨z,j1,j2⟩:=join10 hne hsz;rw[zg (by omega)];rw[hdl,j1,zf,j2,zg (by omega),zkb,zf];cases hsum:decide (sumS (cat ((x::r).dropLast))=y.drop 4)
   ·rfl
   simp only[Bool.not_true,cond_false];have hbk:=hbk hy (of_decide_eq_true hsum);rw[R_printJ _ s1 s2,zf,endJ_eq _ _ (fun _=>hbk)];cases decide ((pJ ⟨x.drop 8,c,o⟩).2=0)
   ·rfl
   simp only[Bool.not_true,cond_false]
   cases decide ((pJ ⟨x.drop 8,c,o⟩).1=cat (x::r)) <;> rfl
  ·rw[decide_eq_false (by simp only[List.length_cons]at a1 b1⊢;omega)]
   rfl
 ·rw[decide_eq_false ht,cond_false]
  have:(decide ((0:Int)≤(L.length:Int))||decide (((L++[t]).length:Int)<4))=true:=by rw[decide_eq_true (by omega)];rfl
  simp only[this,cond_true];unfold PJ;rw[decide_eq_false ht];rfl
end Go.Md

