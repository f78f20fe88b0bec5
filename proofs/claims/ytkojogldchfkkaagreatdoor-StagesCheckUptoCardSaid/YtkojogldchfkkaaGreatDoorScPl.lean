/- Plain lemmas on the models: the law's model answers true. -/
import Derived.Test.YtkojogldchfkkaaGreatDoorScMd
set_option linter.unusedSimpArgs false
set_option linter.unusedVariables false
open List
namespace Go.Md
open Go.Vc
section
variable {Z A S α:Type}
theorem ze(x:A)(k:A->Option Z):call (some x) k=k x:=rfl
theorem ii(g:Bool)(x d:A)(k:A->Option Z):callG g (some x) d k=k (bif g then x else d):=by cases g <;> rfl
theorem G8(a:Option A)(d:A)(k:A->Option Z):callG true a d k=call a k:=rfl
theorem MM(a:Option A)(d:A)(k:A->Option Z):callG false a d k=k d:=rfl
theorem zg{p:Prop}[Decidable p](h:p)(m:Option Z):eB p m=m:=if_pos h
theorem eH(F:S->Option Z)(m:(S->Option Z)->Option Z):jp F m=m F:=rfl
theorem S9(F:S->Option Z)(c:Bool)(x y:S):jp F (fun k=>bif c then k x else k y)=F (bif c then x else y):=by cases c <;> rfl
theorem so{s:eA}{i:Nat}(h:i<s.length)(k:Int->Option Z):fN s i k=k (s[i].toNat:Int):=by
 unfold fN;simp[h]
theorem fF{l:List α}{i:Nat}(h:i<l.length)(k:α->Option Z):eV l i k=k l[i]:=by
 unfold eV;simp[h]
theorem sq{f:Nat->α->Unit->(Unit->Option Z)->(Unit->Option Z)->Option Z}{z:Z}(q:α->Bool)(hf:∀i x nx k,f i x () nx k=bif q x then nx ()else some z)(k:Unit->Option Z) :
  ∀(l:List α) (i:Nat),forL l i f () k=bif l.all q then k ()else some z
 |[],i=>rfl
 |x::l,i=>by
  unfold forL;rw[hf,sq q hf k l (i+1),all_cons]
  cases q x <;> rfl
theorem Bf{f:Nat->α->S->(S->Option Z)->(S->Option Z)->Option Z}{k:S->Option Z}(inv:Nat->List α->S->Prop)(R:Nat->List α->S->Option Z)
  (h0:∀i s,inv i [] s->k s=R i [] s) (h1:∀i x l s nx,inv i (x::l) s->(∀s',inv (i+1) l s'->nx s'=R (i+1) l s')->f i x s nx k=R i (x::l) s) :
  ∀(l:List α) (i:Nat) (s:S),inv i l s->forL l i f s k=R i l s
 |[],i,s,h=>h0 i s h
 |x::l,i,s,h=>h1 i x l s _ h fun s' hs=>Bf inv R h0 h1 l (i+1) s' hs
theorem Bj{f:S->(S->Option Z)->(S->Option Z)->Option Z}{k:S->Option Z}(inv:S->Prop)(mu:S->Nat)(R:S->Option Z)
  (h:∀s nx,inv s->(∀s',inv s'->mu s'<mu s->nx s'=R s')->f s nx k=R s):∀(N:Nat) (s:S),inv s->mu s<N->loopN N f s k=R s
 |0,s,_,hm=>by omega
 |N+1,s,hi,hm=>by
  unfold loopN
  exact h s _ hi fun s' hs' hlt=>Bj inv mu R h N s' hs' (by omega)
theorem g6(b:Bool)(x y:Z):(bif b then some x else some y)=some (bif b then x else y):=by cases b <;> rfl
theorem uH(c:Bool)(x y:Z):(bif c then x else y)=bif !c then y else x:=by cases c <;> rfl
theorem rK{c:Bool}(h:c=true)(x y:Z):(bif c then x else y)=x:=by rw[h];rfl
theorem ug{c:Bool}(h:c=false)(x y:Z):(bif c then x else y)=y:=by rw[h];rfl
end
theorem gI{n:Int}(h1:-9223372036854775808<=n)(h2:n<=9223372036854775807):IntKind.i64.wrap n=n:=pL h1 h2
theorem mO(n:Nat)(h:n<=9223372036854775807):IntKind.i64.wrap (n:Int)=n:=pL (by omega) (by omega)
theorem gH(i:Nat)(h:i<9223372036854775807):IntKind.i64.wrap ((i:Int)+1)=((i+1:Nat):Int):=by rw[gI (by omega) (by omega)];rfl
theorem iV(i:Nat)(h0:0<i)(h:i<9223372036854775807):IntKind.i64.wrap ((i:Int)-1)=((i-1:Nat):Int):=by rw[gI (by omega) (by omega)];omega
theorem un:1099511627776<=fJ:=Nat.le_refl _
def eK(c:UInt8):eA->eA×eA×Bool
 |[]=>([],[],false)
 |b::s=>if b=c then([],s,true)else(b::(eK c s).1,(eK c s).2.1,(eK c s).2.2)
def zO(c:UInt8):eA->List eA
 |[]=>[[]]
 |b::s=>if b=c then []::zO c s else match zO c s with
  |[]=>[[b]]
  |h::t=>(b::h)::t
theorem uu{c:UInt8}:∀{s:eA},c∉s->eK c s=(s,[],false)
 |[],_=>rfl
 |b::s,h=>by
  have hb:b≠c:=fun e=>h (by simp[e])
  have ht:=uu (s:=s) (c:=c) (fun h'=>h (mem_cons_of_mem _ h'));simp only[eK,if_neg hb,ht]
theorem mM{c:UInt8}:∀{s:eA},c∈s->(eK c s).2.2=true/\s=(eK c s).1++c::(eK c s).2.1/\c∉(eK c s).1
 |[],h=>by cases h
 |b::s,h=>by
  by_cases hb:b=c
  .subst hb;simp[eK]
  .have hm:c∈s:=by
    rcases mem_cons.1 h with rfl|h
    .exact absurd rfl hb
    .exact h
   obtain⟨h1,h2,h3⟩:=mM hm;simp only[eK,if_neg hb];refine⟨h1,by rw[cons_append,<-h2],?_⟩;intro h'
   rcases mem_cons.1 h' with rfl|h'
   .exact hb rfl
   .exact h3 h'
theorem Hk(c:UInt8)(s:eA):zO c s≠[]:=by
 cases s with
 |nil=>simp[zO]
 |cons b s =>
  simp only[zO];split
  .simp
  .split <;> simp
theorem Hv{c:UInt8}:∀{s:eA},c∉s->zO c s=[s]
 |[],_=>rfl
 |b::s,h=>by
  have hb:b≠c:=fun e=>h (by simp[e])
  have ht:=Hv (s:=s) (c:=c) (fun h'=>h (mem_cons_of_mem _ h'));simp only[zO,if_neg hb,ht]
theorem MY{c:UInt8}:∀{a b:eA},c∉a->zO c (a++c::b)=a::zO c b
 |[],b,_=>by simp[zO]
 |x::a,b,h=>by
  have hx:x≠c:=fun e=>h (by simp[e])
  have:=MY (a:=a) (b:=b) (c:=c) (fun h'=>h (mem_cons_of_mem _ h'));simp only[cons_append,zO,if_neg hx,this]
theorem BA(c:UInt8)(s:eA):zO c s=if (eK c s).2.2=true then(eK c s).1::zO c (eK c s).2.1 else [s]:=by
 by_cases h:c∈s
 .obtain⟨h1,h2,h3⟩:=mM h
  rw[if_pos h1]
  conv=>lhs;rw[h2]
  exact MY h3
 .rw[uu h]
  simpa using Hv h
theorem uS(c:UInt8)(s:eA):(eK c s).1.length<=s.length/\(eK c s).2.1.length<=s.length/\((eK c s).2.2=true->(eK c s).1.length+(eK c s).2.1.length+1=s.length):=by
 by_cases h:c∈s
 .obtain⟨h1,h2,h3⟩:=mM h
  have:=congrArg List.length h2;simp only[length_append,length_cons]at this;exact⟨by omega,by omega,fun _=>by omega⟩
 .rw[uu h];simp
theorem HO{c:UInt8}:∀{s:eA} {p:eA},p∈zO c s->p.length<=s.length
 |[],p,h=>by simp[zO]at h;simp[h]
 |b::s,p,h=>by
  simp only[zO]at h;split at h
  .rcases mem_cons.1 h with rfl|h
   .simp
   .have:=HO h;simp;omega
  .split at h
   .rename_i e;exact absurd e (Hk c s)
   .rename_i a t e
    rcases mem_cons.1 h with rfl|h
    .have:=HO (s:=s) (p:=a) (c:=c) (by rw[e];simp)
     simp;omega
    .have:=HO (s:=s) (p:=p) (c:=c) (by rw[e];simp[h])
     simp;omega
theorem Q8(c:UInt8)(s:eA):(zO c s).length=s.count c+1:=by
 induction s with
 |nil=>rfl
 |cons b s ih =>
  simp only[zO];split
  .rename_i e;subst e;simp[ih]
  .rename_i e
   rw[count_cons_of_ne (by simpa using e)];split
   .rename_i e';exact absurd e' (Hk c s)
   .rename_i e';rw[e']at ih;simpa using ih
def nY(s:eA)(c:UInt8):Int:=Lib.indexByte s c
theorem lX(c:UInt8):∀s:eA,nY s c=if c∈s then((eK c s).1.length:Int)else -1
 |[]=>rfl
 |b::s=>by
  have ih:=lX c s;unfold nY at *;unfold Lib.indexByte
  by_cases hb:b=c
  .subst hb;simp[eK]
  .rw[if_neg (by simpa using hb),ih]
   simp only[eK,if_neg hb,mem_cons,Ne.symm hb,false_or]
   by_cases h:c∈s
   .rw[if_pos h,if_pos h]
    simp
   .rw[if_neg h,if_neg h];rfl
theorem nX{c:UInt8}{s:eA}(h:c∉s):nY s c=-1:=by rw[lX,if_neg h]
theorem JQ{c:UInt8}{s:eA}(h:c∈s):nY s c=((eK c s).1.length:Int):=by rw[lX,if_pos h]
theorem Mx{c:UInt8}{s:eA}(h:c∈s):s.take (eK c s).1.length=(eK c s).1/\s.drop ((eK c s).1.length+1)=(eK c s).2.1:=by
 obtain⟨h1,h2,h3⟩:=mM h;generalize eK c s=q at h2|-;subst h2;constructor
 .exact take_left' rfl
 .rw[<-drop_drop,drop_left' rfl];rfl
theorem I0(c:UInt8):((([c]:eA).length:Nat):Int)=1:=rfl
theorem C5(i:Nat)(c:UInt8)(h:i<9223372036854775807):IntKind.i64.wrap ((i:Int)+((([c]:eA).length:Nat):Int))=((i+1:Nat):Int):=gH i h
theorem Pl(s:eA)(c:UInt8):xO s (c.toNat:Int)=nY s c:=by
 unfold xO nY
 congr 1
 simp
theorem m6(s:eA)(c:UInt8):FX s [c]=some (nY s c):=by
 unfold FX F2
 by_cases h:s=[c]
 .subst h
  simp[nY,Lib.indexByte]
 .have:(decide (([c]:eA)=s))=false:=by simpa using fun e=>h e.symm
  simp only[this,I0,show decide ((1:Int)=0)=false from rfl,show decide ((1:Int)=1)=true from rfl,decide_true,Bool.or_false,cond_false,cond_true]
  show fN [c] ((0:Nat):Int) _=_
  rw[so (by simp)];simp only[ze,getElem_cons_zero,Pl]
theorem GM(s:eA)(c:UInt8):yP s [c]=some (nY s c):=by
 unfold yP
 rw[m6];rfl
theorem oE(s:eA)(c:UInt8):HN s [c]=some ((s.count c:Nat):Int):=by
 unfold HN;simp only[I0,show decide ((1:Int)=0)=false from rfl,show decide ((1:Int)=1)=true from rfl,decide_true,cond_false,cond_true]
 show fN [c] ((0:Nat):Int) _=_
 rw[so (by simp)];unfold yy;simp
theorem jm(s:eA)(c:UInt8)(hs:s.length<=1099511627776):x9 s [c]=some (eK c s):=by
 unfold x9 Lc;rw[m6];simp only[ze]
 by_cases h:c∈s
 .obtain⟨h1,h2,h3⟩:=mM h
  have hl:=(uS c s).2.2 h1;obtain⟨t1,t2⟩:=Mx h;rw[JQ h,decide_eq_true (by omega),cond_true];rw[zg (by omega)];simp only[C5 _ c (show(eK c s).1.length<9223372036854775807 by omega)];rw[zg (by omega)];simp only[Int.toNat_natCast,t1,t2,ze];rw[show true=(eK c s).2.2 from h1.symm]
 .rw[nX h]
  simp only[show decide ((0:Int)<=-1)=false from rfl,cond_false,ze];rw[uu h]
theorem PI{c:UInt8}{s:eA}(h:c∈s):(eK c s).2.1.count c+1=s.count c:=by
 obtain⟨h1,h2,h3⟩:=mM h
 conv=>rhs;rw[h2]
 rw[count_append,count_eq_zero_of_not_mem h3,count_cons_self];omega
theorem Gz{α:Type}(l:List α)(i:Nat)(x:α)(h:i<l.length):(l.set i x).take (i+1)=l.take i++[x]:=by
 rw[take_succ_eq_append_getElem (by simpa using h)];simp[take_set_of_le]
theorem GA(s:eA)(c:UInt8)(hs:s.length<=17179869184):yQ s [c]=some (zO c s):=by
 have hcl:=count_le_length (a:=c) (l:=s)
 have key:BJ s [c] 0 (-1)=some (zO c s):=by
  unfold BJ;obtain⟨N,hN⟩:∃N,fJ=N:=⟨_,rfl⟩;have hN2:1099511627776<=N:=hN ▸ un;rw[hN];clear hN
  have hmin:min ((s.count c+1:Nat):Int) ((s.length+1:Nat):Int)=((s.count c+1:Nat):Int):=by omega
  simp only[eH,oE,ze,show decide ((-1:Int)=0)=false from rfl,show decide ((-1:Int)<0)=true from rfl,show decide (([c]:eA)=[])=false from rfl,cond_true,cond_false];simp only[gH (s.count c) (by omega),gH s.length (by omega),hmin];rw[zg (by omega)]
  have hw:IntKind.i64.wrap (((s.count c+1:Nat):Int)-1)=((s.count c:Nat):Int):=by rw[gI (by omega) (by omega)];omega
  simp only[hw,Int.toNat_natCast]
  refine(Bj (S:=eA×Int×List eA) (fun st=>∃i:Nat,st.2.1=i/\st.2.2.length=s.count c+1/\st.1.length<=s.length/\i+st.1.count c=s.count c) (fun st=>s.count c-st.2.1.toNat)
   (fun st=>some (st.2.2.take st.2.1.toNat++zO c st.1)) ?_ N _ ⟨0,rfl,by simp,Nat.le_refl _,by simp⟩ (by simp only;omega)).trans ?_
  .rintro⟨t,i',o⟩ nx ⟨i,rfl,ho,ht,hc⟩ hnx
   simp only at ho ht hc hnx|-;simp only[GM,ze]
   by_cases hi:i<s.count c
   .have hmem:c∈t:=by rw[<-count_pos_iff];omega
    obtain⟨h1,h2,h3⟩:=mM hmem;have hl:=(uS c t).2.2 h1;obtain⟨t1,t2⟩:=Mx hmem;rw[decide_eq_true (by omega),cond_true,JQ hmem,decide_eq_false (by omega),cond_false]
    have hw3:IntKind.i64.wrap (((eK c t).1.length:Int)+0)=((eK c t).1.length:Int):=by rw[gI (by omega) (by omega)];omega
    have hw4:IntKind.i64.wrap (((eK c t).1.length:Int)+(([c]:eA).length:Int))=(((eK c t).1.length+1:Nat):Int):=gH _ (by omega);simp only[hw3,hw4,gH i (by omega),Int.toNat_natCast];rw[zg (by omega),zg (by omega),zg (by omega)];have hdc:=PI hmem;simp only[t1,t2];rw[hnx _ ⟨i+1,rfl,by simpa using ho,by simp only;omega,by simp only;omega⟩ (by simp only[Int.toNat_natCast];omega)];simp only[Int.toNat_natCast];rw[Gz o i _ (by omega)]
    congr 1
    rw[show zO c t=(eK c t).1::zO c (eK c t).2.1 by rw[BA,if_pos h1]];simp
   .obtain rfl:i=s.count c:=by omega
    rw[decide_eq_false (by omega),cond_false]
    have hmem:c∉t:=by rw[<-count_pos_iff];omega
    rw[zg (by omega),gH _ (by omega)];simp only[Int.toNat_natCast,length_set];rw[zg (by omega),Gz o _ _ (by omega),Hv hmem]
  .simp
 unfold yQ
 rw[key];rfl
def HX:eA:=[48,49,50,51,52,53,54,55,56,57,97,98,99,100,101,102]
def jX(n:Nat):UInt8:=HX.getD n 0
def jL(c:UInt8):Bool:=decide ((c.toNat:Int)=92)||decide ((c.toNat:Int)=34)
def pF(c:UInt8):Bool:=decide ((c.toNat:Int)<32)||decide (126<(c.toNat:Int))
def mG(c:UInt8):eA:=bif jL c then [92,c]else bif decide ((c.toNat:Int)=10)then [92,110]else bif pF c then [92,120,jX (c.toNat / 16),jX (c.toNat % 16)]else [c]
def body(t:eA):eA:=t.flatMap mG
def pq(t:eA):eA:=34::(body t++[34])
theorem vc{p:UInt8->Prop}(h:∀n:Fin 256,p (UInt8.ofNat n.val))(c:UInt8):p c:=by
 have:=h ⟨c.toNat,c.toNat_lt⟩
 simpa using this
theorem QF(c:UInt8):Int.fdiv (c.toNat:Int) (2^(fz .u8 4))=((c.toNat / 16:Nat):Int):=by
 revert c
 exact vc (by decide +kernel)
theorem QC(c:UInt8):fj .and .u8 (c.toNat:Int) 15=((c.toNat % 16:Nat):Int):=by
 revert c
 exact vc (by decide +kernel)
theorem lZ(c:UInt8):c.toNat / 16<16:=by have:=c.toNat_lt;omega
theorem lV(c:UInt8):c.toNat % 16<16:=by omega
theorem Eg(n:Nat)(h:n<16):(HX[n]'(by simpa [HX]using h))=jX n:=by
 simp[jX,HX,getD_eq_getElem?_getD,h]
theorem ws{Z:Type}(n:Nat)(h:n<16)(k:Int->Option Z):fN HX (n:Int) k=k ((jX n).toNat:Int):=by
 rw[so (by simpa [HX]using h),Eg n h]
theorem Ir(c:UInt8):UInt8.ofNat ((c.toNat:Int)).toNat=c:=by simp
theorem JK(c:UInt8):(mG c).length<=4/\1<=(mG c).length:=by
 unfold mG
 cases jL c <;> cases decide ((c.toNat:Int)=10) <;> cases pF c <;> simp
theorem xk(t:eA):(body t).length<=4*t.length:=by
 induction t with
 |nil=>simp[body]
 |cons c t ih =>
  have:=(JK c).1;simp only[body,flatMap_cons,length_append,length_cons]at *;omega
theorem E6(c:UInt8)(t:eA):body (c::t)=mG c++body t:=by simp[body]
theorem Km(t:eA):(pq t).length<=4*t.length+2:=by
 have:=xk t
 simp only[pq,length_cons,length_append,length_nil];omega
theorem qQ(n:Nat)(h:n<16):List.take ((IntKind.u8.wrap ((n:Int)+1)).toNat-((n:Int)).toNat) (List.drop ((n:Int)).toNat HX)=[jX n]:=by
 have:∀m:Fin 16,List.take ((IntKind.u8.wrap (((m.val:Nat):Int)+1)).toNat-(((m.val:Nat):Int)).toNat) (List.drop (((m.val:Nat):Int)).toNat HX)=[jX m.val]:=by decide +kernel
 exact this ⟨n,h⟩
theorem qO(n:Nat)(h:n<16):IntKind.u8.wrap ((n:Int)+1)=((n+1:Nat):Int):=by
 have:∀m:Fin 16,IntKind.u8.wrap (((m.val:Nat):Int)+1)=((m.val+1:Nat):Int):=by decide +kernel
 exact this ⟨n,h⟩
theorem mF:HX.length=16:=rfl
theorem Ka(s:eA)(hs:s.length<=17179869184):Cw s=some (pq s):=by
 unfold Cw;simp only[eH,show([48,49,50,51,52,53,54,55,56,57,97,98,99,100,101,102]:eA)=HX from rfl];refine(Bf (fun i l (o:eA)=>o.length+4*l.length<=4*s.length+1/\s.drop i=l) (fun i l o=>some (o++(body l++[34]))) (fun i o h=>?_) (fun i c l o nx h hnx=>?_) s 0 _ ?_).trans ?_
 .simp only[length_nil]at h
  rw[zg (by simp;omega)];rfl
 .obtain⟨h,hd⟩:=h
  simp only[length_cons]at h
  have hi:i<s.length:=by
   rcases Nat.lt_or_ge i s.length with h|h
   .exact h
   .rw[drop_eq_nil_of_le h]at hd;cases hd
  have hd':s.drop (i+1)=l:=by
   have:=congrArg List.tail hd
   simpa using this
  have ht:List.take ((((i+1:Nat):Int)).toNat-i) (List.drop i s)=[c]:=by
   rw[hd,Int.toNat_natCast,Nat.add_sub_cancel_left];rfl
  simp only[gH i (by omega),ht];rw[E6];unfold mG jL;rw[show(decide ((c.toNat:Int)=34)||decide ((c.toNat:Int)=92))=(decide ((c.toNat:Int)=92)||decide ((c.toNat:Int)=34))from Bool.or_comm _ _]
  cases h1:decide ((c.toNat:Int)=92)||decide ((c.toNat:Int)=34)with
  |true =>
   simp only[cond_true];rw[zg (by omega),zg (by simp),zg (by simp;omega),hnx _ ⟨by simp;omega,hd'⟩];simp
  |false =>
   simp only[cond_false]
   cases h2:decide ((c.toNat:Int)=10)with
   |true =>
    simp only[cond_true];rw[zg (by simp;omega),hnx _ ⟨by simp;omega,hd'⟩];simp
   |false =>
    simp only[cond_false];unfold pF
    cases h3:decide ((c.toNat:Int)<32)||decide (126<(c.toNat:Int))with
    |true =>
     have a1:=lZ c;have a2:=lV c;simp only[cond_true,QF,QC];simp only[qQ _ a1,qQ _ a2];simp only[qO _ a1,qO _ a2,mF];rw[zg (by omega),zg (by simp),zg (by omega),zg (by simp),zg (by simp;omega),hnx _ ⟨by simp;omega,hd'⟩];simp
    |false =>
     simp only[cond_false];rw[zg (by omega),zg (by simp;omega),hnx _ ⟨by simp;omega,hd'⟩];simp
 .exact⟨by simp;omega,rfl⟩
 .rfl
theorem PE(s:eA)(hs:s.length<=17179869184):Fh s=some (pq s):=by
 unfold Fh
 have hw:IntKind.i64.wrap ((s.length:Int)+2)=((s.length+2:Nat):Int):=by rw[gI (by omega) (by omega)];rfl
 simp only[hw,eH];rw[zg (by omega),zg (by simp)];refine(Bf (fun i l (o:List Int)=>o.length+4*l.length<=4*s.length+1) (fun i l o=>some (Go.Vc.strOf o++(body l++[34]))) (fun i o h=>?_) (fun i c l o nx h hnx=>?_) s 0 _ ?_).trans ?_
 .simp only[length_nil]at h
  rw[zg (by simp;omega),BG];rfl
 .simp only[length_cons]at h
  rw[E6];unfold mG jL
  cases h1:decide ((c.toNat:Int)=92)||decide ((c.toNat:Int)=34)with
  |true =>
   simp only[cond_true];rw[zg (by simp;omega),hnx _ (by simp;omega),BG];simp only[Bv,Bl,Ir];simp
  |false =>
   simp only[cond_false]
   cases h2:decide ((c.toNat:Int)=10)with
   |true =>
    simp only[cond_true];rw[zg (by simp;omega),hnx _ (by simp;omega),BG];simp[Bv,Bl]
   |false =>
    simp only[cond_false];unfold pF
    cases h3:decide ((c.toNat:Int)<32)||decide (126<(c.toNat:Int))with
    |true =>
     simp only[cond_true,QF,QC];rw[show([48,49,50,51,52,53,54,55,56,57,97,98,99,100,101,102]:eA)=HX from rfl,ws _ (lZ c),ws _ (lV c),zg (by simp;omega),hnx _ (by simp;omega),BG];simp only[Bv,Bl,Ir];simp
    |false =>
     simp only[cond_false];rw[zg (by simp;omega),hnx _ (by simp;omega),BG];simp only[Bv,Bl,Ir];simp
 .simp;omega
 .simp only[List.replicate,nil_append,Bv,Bl]
  rfl
def g5(c:UInt8):Int:=nY HX c
theorem Fi(c:UInt8):g5 c=-1∨∃a:Fin 16,g5 c=(a.val:Int)/\c=jX a.val:=by
 revert c
 exact vc (by decide +kernel)
theorem Fa(n:Nat)(h:n<16):g5 (jX n)=n:=by
 have:∀m:Fin 16,g5 (jX m.val)=(m.val:Int):=by decide +kernel
 exact this ⟨n,h⟩
def iD:eA->Int×Int
 |[]=>(0,0)
 |c::r=>bif jL c then((c.toNat:Int),1)else bif decide ((c.toNat:Int)=110)then(10,1)else bif !decide ((c.toNat:Int)=120)then(0,0)else match r with
  |h::l::_=>bif decide (g5 h<0)||decide (g5 l<0)then(0,0)else bif (decide (32<=16*g5 h+g5 l)&&decide (16*g5 h+g5 l<=126))||decide (16*g5 h+g5 l=10)then(0,0)else(16*g5 h+g5 l,3)
  |_=>(0,0)
theorem Ay(r:eA):0<=(iD r).2/\(iD r).2<=r.length/\(iD r).2<=3/\0<=(iD r).1/\(iD r).1<=255:=by
 cases r with
 |nil=>simp[iD]
 |cons c r =>
  have hc:=c.toNat_lt;simp only[iD];cases jL c
  .cases decide ((c.toNat:Int)=110)
   .cases decide ((c.toNat:Int)=120)
    .simp;omega
    .rcases r with _|⟨h,_|⟨l,r⟩⟩
     .simp
     .simp;try omega
     .simp only[cond_false,Bool.not_true]
      rcases Fi h with h1|⟨a,h1,_⟩
      .simp[h1];omega
      rcases Fi l with h2|⟨b,h2,_⟩
      .simp[h2];omega
      have:=a.isLt;have:=b.isLt;simp only[h1,h2]
      cases decide (((a.val:Nat):Int)<0)||decide (((b.val:Nat):Int)<0)
      .simp only[cond_false]
       generalize (decide (32<=16*((a.val:Nat):Int)+((b.val:Nat):Int))&&decide (16*((a.val:Nat):Int)+((b.val:Nat):Int)<=126)||decide (16*((a.val:Nat):Int)+((b.val:Nat):Int)=10))=q;cases q
       .simp only[cond_false,length_cons];omega
       .simp;omega
      .simp;omega
   .simp;omega
  .simp only[cond_true,length_cons];omega
theorem ot{x:UInt8}(h:jL x=true)(r:eA):iD (x::r)=((x.toNat:Int),1):=by simp only[iD,h,cond_true]
theorem wC{x:UInt8}(h:jL x=false)(h2:decide ((x.toNat:Int)=110)=false)(h3:decide ((x.toNat:Int)=120)=false)(r:eA):iD (x::r)=(0,0):=by simp only[iD,h,h2,h3,cond_false,Bool.not_false,cond_true]
theorem L2(h l:UInt8)(r:eA):iD (120::h::l::r)=bif decide (g5 h<0)||decide (g5 l<0)then(0,0)else bif (decide (32<=16*g5 h+g5 l)&&decide (16*g5 h+g5 l<=126))||decide (16*g5 h+g5 l=10)then(0,0)else(16*g5 h+g5 l,3):=rfl
theorem tx(m n:Nat)(hm:m<16)(hn:n<16)(r:eA):iD (120::jX m::jX n::r)=bif (decide (32<=16*(m:Int)+(n:Int))&&decide (16*(m:Int)+(n:Int)<=126))||decide (16*(m:Int)+(n:Int)=10)then(0,0)else(16*(m:Int)+(n:Int),3):=by
 rw[L2,Fa m hm,Fa n hn,decide_eq_false (by omega),decide_eq_false (by omega)];rfl
theorem oa(s:eA)(c:UInt8):FU s (c.toNat:Int)=some (nY s c):=by
 unfold FU F2
 rw[Pl];rfl
theorem BU(n:Int)(h:0<=n)(h2:n<=255):IntKind.u8.wrap n=n:=by
 rw[Il h h2]
theorem QY(s:eA):Hj s=some (iD s):=by
 unfold Hj
 cases s with
 |nil=>rfl
 |cons c r =>
  simp only[show decide (c::r=([]:eA))=false from rfl,cond_false];rw[show fN (c::r) 0=fN (c::r) ((0:Nat):Int)from rfl,so (by simp)];simp only[getElem_cons_zero];simp only[iD];rw[show(decide ((c.toNat:Int)=92)||decide ((c.toNat:Int)=34))=jL c from rfl];cases jL c
  .simp only[cond_false]
   cases decide ((c.toNat:Int)=110)
   .simp only[cond_false]
    cases decide ((c.toNat:Int)=120)
    .rfl
    .simp only[Bool.not_true,Bool.false_or,cond_false]
     rcases r with _|⟨h,_|⟨l,r⟩⟩
     .rfl
     .rfl
     .rw[decide_eq_false (by simp only[length_cons];omega),cond_false,show fN (c::h::l::r) 1=fN (c::h::l::r) ((1:Nat):Int)from rfl,so (by simp)]
      simp only[getElem_cons_succ,getElem_cons_zero,show([48,49,50,51,52,53,54,55,56,57,97,98,99,100,101,102]:eA)=HX from rfl,oa,ze];rw[show fN (c::h::l::r) 2=fN (c::h::l::r) ((2:Nat):Int)from rfl,so (by simp)];simp only[getElem_cons_succ,getElem_cons_zero,oa,ze];rw[show nY HX h=g5 h from rfl,show nY HX l=g5 l from rfl]
      rcases Fi h with h1|⟨a,h1,_⟩
      .rw[h1];rfl
      rcases Fi l with h2|⟨b,h2,_⟩
      .rw[h2];simp
      have ha:=a.isLt;have hb:=b.isLt;rw[h1,h2,decide_eq_false (by omega),decide_eq_false (by omega)];simp only[Bool.or_false,cond_false];rw[gI (n:=16*((a.val:Nat):Int)) (by omega) (by omega),gI (n:=16*((a.val:Nat):Int)+((b.val:Nat):Int)) (by omega) (by omega),BU _ (by omega) (by omega)];generalize (decide (32<=16*((a.val:Nat):Int)+((b.val:Nat):Int))&&decide (16*((a.val:Nat):Int)+((b.val:Nat):Int)<=126)||decide (16*((a.val:Nat):Int)+((b.val:Nat):Int)=10))=q
      cases q <;> rfl
   .rfl
  .rfl
def vh:eA->Option (UInt8×eA)
 |[]=>none
 |c::r=>bif pF c||decide ((c.toNat:Int)=34)then none else bif decide ((c.toNat:Int)=92)then(bif decide ((iD r).2=0)then none else some (UInt8.ofNat (iD r).1.toNat,r.drop (iD r).2.toNat))else some (c,r)
theorem Ax(x:UInt8)(h1:jL x=false)(h2:decide ((x.toNat:Int)=10)=false)(h3:pF x=true)(r:eA):iD (120::jX (x.toNat / 16)::jX (x.toNat % 16)::r)=((x.toNat:Int),3):=by
 have a1:=lZ x;have a2:=lV x;simp only[iD];rw[show jL 120=false from rfl,show decide ((((120:UInt8).toNat:Nat):Int)=110)=false from rfl,show decide ((((120:UInt8).toNat:Nat):Int)=120)=true from rfl];simp only[cond_false,Bool.not_true,Fa _ a1,Fa _ a2]
 have e:16*((x.toNat / 16:Nat):Int)+((x.toNat % 16:Nat):Int)=(x.toNat:Int):=by omega
 rw[e,decide_eq_false (by omega),decide_eq_false (by omega)];simp only[Bool.or_self,cond_false,h2,Bool.or_false]
 have:(decide (32<=(x.toNat:Int))&&decide ((x.toNat:Int)<=126))=false:=by
  unfold pF at h3;simp only[Bool.or_eq_true,decide_eq_true_eq]at h3;simp only[Bool.and_eq_false_iff,decide_eq_false_iff_not];omega
 rw[this];rfl
theorem yZ(x:UInt8)(r:eA):vh (mG x++r)=some (x,r):=by
 unfold mG;cases h1:jL x
 .cases h2:decide ((x.toNat:Int)=10)
  .cases h3:pF x
   .simp only[cond_false,cons_append,nil_append]
    simp only[vh];unfold jL at h1;simp only[Bool.or_eq_false_iff]at h1
    rw[h3,h1.1,h1.2];rfl
   .simp only[cond_false,cond_true,cons_append,nil_append]
    simp only[vh];rw[Ax x h1 h2 h3];simp;rfl
  .simp only[cond_false,cond_true,cons_append,nil_append]
   have:x=10:=by
    have h:=of_decide_eq_true h2
    have:x.toNat=10:=by omega
    exact UInt8.toNat_inj.1 this
   subst this;rfl
 .simp only[cond_true,cons_append,nil_append]
  simp only[vh,ot h1];simp;rfl
theorem mU{r r2:eA}{x:UInt8}(h:vh r=some (x,r2)):r=mG x++r2:=by
 cases r with
 |nil=>cases h
 |cons c r =>
  simp only[vh]at h
  cases hf:pF c||decide ((c.toNat:Int)=34)
  .rw[hf,cond_false]at h
   simp only[Bool.or_eq_false_iff]at hf;cases hb:decide ((c.toNat:Int)=92)
   .rw[hb,cond_false]at h
    cases h;unfold mG jL;rw[hb,hf.2]
    have:decide ((x.toNat:Int)=10)=false:=by
     have:=hf.1;unfold pF at this;simp only[Bool.or_eq_false_iff,decide_eq_false_iff_not]at this;simp only[decide_eq_false_iff_not];omega
    rw[this,hf.1];rfl
   .rw[hb,cond_true]at h
    have hc:c=92:=by
     have h:=of_decide_eq_true hb
     have:c.toNat=92:=by omega
     exact UInt8.toNat_inj.1 this
    subst hc
    cases r with
    |nil=>simp[iD]at h
    |cons d r =>
     cases he:jL d
     .cases hn:decide ((d.toNat:Int)=110)
      .cases hx:decide ((d.toNat:Int)=120)
       .rw[wC he hn hx]at h;simp at h
       .have hd:d=120:=by
         have h:=of_decide_eq_true hx
         have:d.toNat=120:=by omega
         exact UInt8.toNat_inj.1 this
        subst hd
        rcases r with _|⟨a,_|⟨b,r⟩⟩
        .rw[show iD [120]=(0,0)from rfl]at h;simp at h
        .rw[show iD [120,a]=(0,0)from rfl]at h;simp at h
        .rcases Fi a with h1|⟨m,h1,rfl⟩
         .rw[L2,h1]at h;simp at h
         rcases Fi b with h2|⟨n,h2,rfl⟩
         .rw[L2,h2]at h;simp at h
         have hm:=m.isLt;have hn':=n.isLt;have hE:=tx m.val n.val hm hn' r
         cases hq:(decide (32<=16*((m.val:Nat):Int)+((n.val:Nat):Int))&&decide (16*((m.val:Nat):Int)+((n.val:Nat):Int)<=126))||decide (16*((m.val:Nat):Int)+((n.val:Nat):Int)=10)
         .rw[hq,cond_false]at hE
          rw[hE]at h;rw[show decide ((3:Int)=0)=false from rfl,cond_false]at h;have h':=Option.some.inj h;have hx':UInt8.ofNat (16*((m.val:Nat):Int)+((n.val:Nat):Int)).toNat=x:=congrArg Prod.fst h';have hr':List.drop (3:Int).toNat (120::jX m.val::jX n.val::r)=r2:=congrArg Prod.snd h';have hr2:r=r2:=hr'
          have hxn:x.toNat=16*m.val+n.val:=by
           rw[<-hx',UInt8.toNat_ofNat'];omega
          simp only[Bool.or_eq_false_iff,Bool.and_eq_false_iff,decide_eq_false_iff_not]at hq;unfold mG
          have e1:jL x=false:=by
           unfold jL;simp only[Bool.or_eq_false_iff,decide_eq_false_iff_not];omega
          have e2:decide ((x.toNat:Int)=10)=false:=by simp only[decide_eq_false_iff_not];omega
          have e3:pF x=true:=by
           unfold pF;simp only[Bool.or_eq_true,decide_eq_true_eq];omega
          rw[e1,e2,e3,hxn,show(16*m.val+n.val) / 16=m.val by omega,show(16*m.val+n.val) % 16=n.val by omega,<-hr2];rfl
         .rw[hq,cond_true]at hE
          rw[hE]at h;simp at h
      .have hd:d=110:=by
        have h:=of_decide_eq_true hn
        have:d.toNat=110:=by omega
        exact UInt8.toNat_inj.1 this
       subst hd;have h':some ((10:UInt8),r)=some (x,r2):=h;cases h';rfl
     .rw[ot he]at h
      simp only[]at h;rw[show decide ((1:Int)=0)=false from rfl,cond_false,Ir]at h;cases h;unfold mG
      rw[he];rfl
  .rw[hf,cond_true]at h;cases h
def jR:Nat->eA->Option eA
 |n,[]=>some []
 |0,_::_=>none
 |n+1,c::r=>(vh (c::r)).bind fun p=>(jR n p.2).map (p.1::·)
theorem JY(n:Nat):jR n []=some []:=by cases n <;> rfl
theorem sE(c:UInt8)(r:eA):jR 0 (c::r)=none:=rfl
theorem GR(n:Nat)(c:UInt8)(r:eA):jR (n+1) (c::r)=(vh (c::r)).bind fun p=>(jR n p.2).map (p.1::·):=rfl
theorem wB(x:UInt8):mG x≠[]:=by
 have:=(JK x).2
 intro h;rw[h]at this;simp at this
theorem j8:∀(t:eA) (n:Nat),t.length<=n->jR n (body t)=some t
 |[],n,_=>JY n
 |x::t,0,h=>by simp at h
 |x::t,n+1,h=>by
  rw[E6];have hs:=yZ x (body t)
  have hne:mG x++body t≠[]:=fun h=>wB x (append_eq_nil_iff.1 h).1
  obtain⟨c,r,hb⟩:=exists_cons_of_ne_nil hne;rw[hb]at hs|-
  rw[GR,hs,Option.bind_some,j8 t n (by simpa using h)];rfl
theorem Oj:∀(n:Nat) (r t:eA),jR n r=some t->body t=r
 |n,[],t,h=>by
  rw[JY]at h;obtain rfl:=Option.some.inj h;rfl
 |0,c::r,t,h=>by rw[sE]at h;cases h
 |n+1,c::r,t,h=>by
  rw[GR]at h;obtain⟨p,hs,h⟩:=Option.bind_eq_some_iff.1 h;obtain⟨t2,hu,h⟩:=Option.map_eq_some_iff.1 h;rw[<-h,E6,Oj n p.2 t2 hu];exact(mU (x:=p.1) (r2:=p.2) hs).symm
theorem qU{r r2:eA}{x:UInt8}(h:vh r=some (x,r2)):r2.length<r.length:=by
 have:=mU h;have hl:=(JK x).2
 rw[this,length_append];omega
theorem J1{α β:Type}{o:Option α}{f g:α->Option β}(h:∀p,o=some p->f p=g p):o.bind f=o.bind g:=by
 cases o with
 |none=>rfl
 |some p=>exact h p rfl
theorem M0:∀(n:Nat) (r:eA),r.length<=n->jR n r=jR r.length r
 |n,[],_=>by rw[JY,JY]
 |0,c::r,h=>by simp at h
 |n+1,c::r,h=>by
  rw[length_cons,GR,GR]
  refine J1 fun p hs=>?_
  have hl:=qU (x:=p.1) (r2:=p.2) hs;rw[length_cons]at hl h;rw[M0 n p.2 (by omega),M0 r.length p.2 (by omega)]
def r9(r:eA):Option eA:=jR r.length r
theorem pO{c:UInt8}{r:eA}:r9 (c::r)=(vh (c::r)).bind fun p=>(r9 p.2).map (p.1::·):=by
 unfold r9;rw[length_cons,GR]
 refine J1 fun p hs=>?_
 have hl:=qU (x:=p.1) (r2:=p.2) hs;rw[length_cons]at hl;rw[M0 r.length p.2 (by omega)]
theorem rJ(t:eA):t.length<=(body t).length:=by
 induction t with
 |nil=>simp
 |cons c t ih =>
  have:=(JK c).2;rw[E6,length_append,length_cons];omega
theorem pP(t:eA):r9 (body t)=some t:=j8 t _ (rJ t)
theorem MZ{r t:eA}(h:r9 r=some t):body t=r:=Oj _ _ _ h
def fg(o:Option eA):eA×Int:=match o with
 |some t=>(t,0)
 |none=>([],8)
def gX(s:eA):eA:=(s.drop 1).take (s.length-2)
def yq(s:eA):Bool:=!((decide ((s.length:Int)<2)||!decide (((s.getD 0 0).toNat:Int)=34))||!decide (((s.getD (s.length-1) 0).toNat:Int)=34))
def iu(s:eA):eA×Int:=bif yq s then fg (r9 (gX s))else([],8)
theorem LR(s:eA)(h:2<=s.length)(h2:s.length<=17179869184):IntKind.i64.wrap ((s.length:Int)-1)=((s.length-1:Nat):Int):=iV _ (by omega) (by omega)
theorem Rn(s:eA)(hs:s.length<=17179869184):Fy s=some (iu s):=by
 unfold Fy iu yq;obtain⟨N,hN⟩:∃N,fJ=N:=⟨_,rfl⟩;have hN2:1099511627776<=N:=hN ▸ un;rw[hN];clear hN
 by_cases h2:2<=s.length
 rotate_left
 .rw[show decide ((s.length:Int)<2)=true by simp;omega]
  simp only[Bool.not_true,Bool.true_or];rw[zg (by intro h;cases h),zg (by intro h;cases h)];rfl
 rw[show decide ((s.length:Int)<2)=false by simp;omega];rw[LR s h2 hs];simp only[Bool.false_or,Int.toNat_natCast];rw[zg (by intro _;omega),zg (by intro _;omega)];generalize (!decide (((s.getD 0 0).toNat:Int)=34)||!decide (((s.getD (s.length-1) 0).toNat:Int)=34))=q;cases q
 rotate_left
 .rfl
 have hm:List.take (s.length-1-1) (List.drop 1 s)=gX s:=by unfold gX;congr 1
 simp only[cond_false,Bool.not_false,cond_true,hm,eH]
 have hml:(gX s).length=s.length-2:=by simp[gX];omega
 rw[zg (by omega),zg (by omega)];refine(Bj (S:=Int×List Int) (fun st=>∃i:Nat,st.1=i/\i<=(gX s).length/\st.2.length<=i) (fun st=>(gX s).length-st.1.toNat) (fun st=>some (fg ((r9 ((gX s).drop st.1.toNat)).map (Go.Vc.strOf st.2++·)))) ?_ N _ ⟨0,rfl,by omega,by simp⟩ (by simp only;omega)).trans ?_
 .rintro⟨i',o⟩ nx ⟨i,rfl,hi,ho⟩ hnx
  simp only at ho hnx|-
  by_cases hlt:i<(gX s).length
  .rw[decide_eq_true (by omega),cond_true,so hlt]
   simp only[Int.toNat_natCast];rw[drop_eq_getElem_cons hlt,pO];generalize hcc:(gX s)[i]=c;rw[show((decide ((c.toNat:Int)<32)||decide (126<(c.toNat:Int)))||decide ((c.toNat:Int)=34))=(pF c||decide ((c.toNat:Int)=34))from rfl];simp only[vh]
   cases hf:pF c||decide ((c.toNat:Int)=34)
   .simp only[cond_false]
    cases hb:decide ((c.toNat:Int)=92)
    .simp only[cond_false]
     rw[gH i (by omega),zg (by simp;omega),hnx _ ⟨i+1,rfl,by omega,by simp;omega⟩ (by simp only[Int.toNat_natCast];omega)];simp only[Int.toNat_natCast];rw[Option.bind_some]
     cases r9 ((gX s).drop (i+1))with
     |none=>rfl
     |some t=>simp only[Option.map_some,BG,Bv,Bl,Ir];simp[fg]
    .simp only[cond_true]
     rw[gH i (by omega),zg (by omega)];simp only[Int.toNat_natCast,QY,ze];have hbd:=Ay ((gX s).drop (i+1));rw[length_drop]at hbd;generalize hE:iD ((gX s).drop (i+1))=E at hbd;obtain⟨x,n⟩:=E;simp only at hbd|-;cases hz:decide (n=0)
     .simp only[cond_false]
      have hn0:n≠0:=of_decide_eq_false hz;rw[zg (by simp;omega),gI (n:=(i:Int)+n) (by omega) (by omega),gI (n:=(i:Int)+n+1) (by omega) (by omega)]
      have e:(i:Int)+n+1=((i+n.toNat+1:Nat):Int):=by omega
      rw[e,hnx _ ⟨i+n.toNat+1,rfl,by omega,by simp;omega⟩ (by simp only[Int.toNat_natCast];omega)];simp only[Int.toNat_natCast,drop_drop];rw[show i+1+n.toNat=i+n.toNat+1 by omega];rw[Option.bind_some];simp only
      cases r9 ((gX s).drop (i+n.toNat+1))with
      |none=>rfl
      |some t=>simp only[Option.map_some,BG,Bv,Bl];simp[fg]
     .rfl
   .rfl
  .obtain rfl:i=(gX s).length:=by omega
   rw[decide_eq_false (by omega),cond_false,Int.toNat_natCast,drop_length]
   show _=some (Go.Vc.strOf o++[],(0:Int))
   rw[append_nil]
 .simp only[Int.toNat_zero,drop_zero,List.replicate]
  cases r9 (gX s)with
  |none=>rfl
  |some t=>rfl
def wt(h l:UInt8):Int:=IntKind.u8.wrap (IntKind.i64.wrap ((IntKind.i64.wrap (g5 h*16))+g5 l))
def je(c:UInt8):Bool:=decide ((c.toNat:Int)=34)||decide ((c.toNat:Int)=92)
theorem tj(c:UInt8):je c=jL c:=Bool.or_comm _ _
def uF:eA->Option (Int×eA)
 |d::r=>bif je d then some ((d.toNat:Int),r)else bif decide ((d.toNat:Int)=110)then some (10,r)else bif decide ((d.toNat:Int)=120)then(match r with
  |h::l::r'=>some (wt h l,r')
  |_=>none)else none
 |[]=>none
def gk:eA->Option (Int×eA)
 |[]=>none
 |c::r=>bif !decide ((c.toNat:Int)=92)then some ((c.toNat:Int),r)else uF r
theorem Ar(m n:Nat)(hm:m<16)(hn:n<16):wt (jX m) (jX n)=16*m+n:=by
 unfold wt;rw[Fa m hm,Fa n hn,gI (n:=(m:Int)*16) (by omega) (by omega),gI (n:=(m:Int)*16+n) (by omega) (by omega),BU _ (by omega) (by omega)];omega
theorem v8(x:UInt8)(r:eA):gk (mG x++r)=some ((x.toNat:Int),r):=by
 unfold mG;cases h1:jL x
 .cases h2:decide ((x.toNat:Int)=10)
  .cases h3:pF x
   .simp only[cond_false,cons_append,nil_append,gk]
    unfold jL at h1;simp only[Bool.or_eq_false_iff]at h1
    rw[h1.1];rfl
   .simp only[cond_false,cond_true,cons_append,nil_append,gk]
    have a1:=lZ x;have a2:=lV x
    show some (wt (jX (x.toNat / 16)) (jX (x.toNat % 16)),r)=_
    rw[Ar _ _ a1 a2]
    congr 2
    omega
  .simp only[cond_false,cond_true,cons_append,nil_append]
   have h:=of_decide_eq_true h2
   rw[h];rfl
 .simp only[cond_true,cons_append,nil_append,gk]
  show uF (x::r)=_
  simp only[uF,tj,h1,cond_true]
theorem nK{r:eA}{p:Int×eA}(h:gk r=some p):p.2.length<r.length:=by
 cases r with
 |nil=>cases h
 |cons c r =>
  simp only[gk]at h;cases hc:!decide ((c.toNat:Int)=92)
  .rw[hc,cond_false]at h
   cases r with
   |nil=>cases h
   |cons d r =>
    simp only[uF]at h;cases h1:je d
    .rw[h1,cond_false]at h
     cases h2:decide ((d.toNat:Int)=110)
     .rw[h2,cond_false]at h
      cases h3:decide ((d.toNat:Int)=120)
      .rw[h3,cond_false]at h;cases h
      .rw[h3,cond_true]at h
       rcases r with _|⟨a,_|⟨b,r⟩⟩
       .cases h
       .cases h
       .have:=(Option.some.inj h).symm
        rw[this];simp only[length_cons];omega
     .rw[h2,cond_true]at h
      have:=(Option.some.inj h).symm
      rw[this];simp only[length_cons];omega
    .rw[h1,cond_true]at h
     have:=(Option.some.inj h).symm
     rw[this];simp only[length_cons];omega
  .rw[hc,cond_true]at h
   have:=(Option.some.inj h).symm
   rw[this];simp only[length_cons];omega
def qn:Nat->eA->List Int->Option (List Int)
 |n,[],o=>some o
 |0,_::_,_=>none
 |n+1,c::r,o=>(gk (c::r)).bind fun p=>qn n p.2 (o++[p.1])
theorem LX(n:Nat)(o:List Int):qn n [] o=some o:=by cases n <;> rfl
theorem L8(n:Nat)(c:UInt8)(r:eA)(o:List Int):qn (n+1) (c::r) o=(gk (c::r)).bind fun p=>qn n p.2 (o++[p.1]):=rfl
theorem MU:∀(n:Nat) (r:eA) (o:List Int),r.length<=n->qn n r o=qn r.length r o
 |n,[],o,_=>by rw[LX,LX]
 |0,c::r,o,h=>by simp at h
 |n+1,c::r,o,h=>by
  rw[length_cons,L8,L8]
  refine J1 fun p hs=>?_
  have hl:=nK hs;rw[length_cons]at hl h;rw[MU n p.2 _ (by omega),MU r.length p.2 _ (by omega)]
def jc(r:eA)(o:List Int):Option (List Int):=qn r.length r o
theorem Oy{c:UInt8}{r:eA}{o:List Int}:jc (c::r) o=(gk (c::r)).bind fun p=>jc p.2 (o++[p.1]):=by
 unfold jc;rw[length_cons,L8]
 refine J1 fun p hs=>?_
 have hl:=nK hs;rw[length_cons]at hl;rw[MU r.length p.2 _ (by omega)]
theorem Ox:∀(t:eA) (o:List Int),jc (body t) o=some (o++xR t)
 |[],o=>by rw[show body []=[]from rfl];simp[jc,LX,xR]
 |x::t,o=>by
  rw[E6];have hs:=v8 x (body t)
  have hne:mG x++body t≠[]:=fun h=>wB x (append_eq_nil_iff.1 h).1
  obtain⟨c,r,hb⟩:=exists_cons_of_ne_nil hne;rw[hb]at hs|-;rw[Oy,hs,Option.bind_some,Ox t];simp[xR]
theorem mX(t:eA):Go.Vc.strOf (xR t)=t:=PA t
theorem Pc(s:eA)(h:yq s=true):s=34::(gX s++[34]):=by
 unfold yq at h;simp only[Bool.not_eq_true',Bool.or_eq_false_iff,decide_eq_false_iff_not,Bool.not_eq_false',decide_eq_true_eq]at h;obtain⟨⟨h1,h2⟩,h3⟩:=h
 rcases s with _|⟨c,r⟩
 .simp at h1
 have hr:r≠[]:=by rintro rfl;simp at h1
 have hc:c=34:=by
  have:c.toNat=34:=by rw[getD_cons_zero]at h2;omega
  exact UInt8.toNat_inj.1 this
 have hrl:0<r.length:=length_pos_iff.2 hr
 have hl:r.getLast hr=34:=by
  rw[show(c::r).length-1=(r.length-1)+1 by simp;omega,getD_cons_succ,getD_eq_getElem?_getD,getElem?_eq_getElem (by omega),Option.getD_some]at h3;rw[getLast_eq_getElem]
  have:(r[r.length-1]'(by omega)).toNat=34:=by omega
  exact UInt8.toNat_inj.1 this
 have hm:gX (c::r)=r.dropLast:=by
  unfold gX;rw[dropLast_eq_take];simp
 rw[hm,hc]
 congr 1
 rw[<-hl];exact(dropLast_concat_getLast hr).symm
theorem yX(c d:UInt8)(r:eA):(c::d::r).getD 1 0=d:=rfl
theorem mw(s:eA)(hs:s.length<=17179869184):GU s=some (iu s):=by
 unfold GU iu;obtain⟨N,hN⟩:∃N,fJ=N:=⟨_,rfl⟩;have hN2:1099511627776<=N:=hN ▸ un;rw[hN];clear hN;cases hq:yq s
 .unfold yq at hq
  simp only[Bool.not_eq_false']at hq
  by_cases h2:2<=s.length
  .rw[show decide ((s.length:Int)<2)=false by simp;omega]at hq|-
   rw[LR s h2 hs];simp only[Bool.false_or,Int.toNat_natCast]at hq|-;rw[zg (by intro _;omega),zg (by intro _;omega),hq];rfl
  .rw[show decide ((s.length:Int)<2)=true by simp;omega]
   simp only[Bool.not_true,Bool.true_or];rw[zg (by intro h;cases h),zg (by intro h;cases h)];rfl
 have hsp:=Pc s hq;unfold yq at hq;simp only[Bool.not_eq_true']at hq
 have h2:2<=s.length:=by
  simp only[Bool.or_eq_false_iff,decide_eq_false_iff_not]at hq;omega
 rw[show decide ((s.length:Int)<2)=false by simp;omega]at hq|-;rw[LR s h2 hs];simp only[Bool.false_or,Int.toNat_natCast]at hq|-;rw[zg (by intro _;omega),zg (by intro _;omega),hq]
 have hm:List.take (s.length-1-1) (List.drop 1 s)=gX s:=by unfold gX;congr 1
 have hml:(gX s).length=s.length-2:=by simp[gX];omega
 simp only[cond_false,cond_true,hm,eH];rw[zg (by omega)]
 refine(Bj (S:=eA×List Int) (fun st=>st.2.length+st.1.length<=s.length) (fun st=>st.1.length) (fun st=>match jc st.1 st.2 with
   |some o=>bif !decide (pq (Go.Vc.strOf o)=s)then some (([]:eA),(8:Int))else some (Go.Vc.strOf o,0)
   |none=>some ([],8)) ?_ N _ (by simp only[length_nil];omega) (by simp only;omega)).trans ?_
 .rintro⟨b,o⟩ nx hi hnx
  dsimp +instances only at hi hnx|-
  cases b with
  |nil =>
   simp only[show decide (([]:eA)=[])=true from rfl,Bool.not_true,cond_false];rw[Ka _ (by simp[Go.Vc.strOf];simp at hi;omega),ze];rfl
  |cons c r =>
   simp only[show decide (c::r=([]:eA))=false from rfl,Bool.not_false,cond_true];rw[show fN (c::r) 0=fN (c::r) ((0:Nat):Int)from rfl,so (by simp)];simp only[getElem_cons_zero];rw[Oy];simp only[length_cons]at hi;cases hc:!decide ((c.toNat:Int)=92)
   .simp only[cond_false]
    cases r with
    |nil =>
     simp only[length_cons,length_nil];rw[zg (by intro h;simp at h),zg (by intro h;simp at h)];simp only[show decide ((2:Int)<=((0+1:Nat):Int))=false from rfl,show decide ((4:Int)<=((0+1:Nat):Int))=false from rfl,Bool.false_and,cond_false];rw[zg (by intro h;cases h),zg (by intro h;cases h)];simp only[gk,hc,cond_false,uF];rfl
    |cons d r =>
     rw[show decide ((2:Int)<=((c::d::r).length:Int))=true by simp;omega];dsimp +instances only [yX];simp only[Bool.true_and];rw[zg (by intro h;simp;omega),zg (by intro h;simp;omega)];rw[show(decide ((d.toNat:Int)=34)||decide ((d.toNat:Int)=92))=je d from rfl];simp only[length_cons]at hi;cases h1:je d
     .simp only[cond_false]
      rw[zg (by intro h;simp;omega)];cases h3:decide ((d.toNat:Int)=110)
      .simp only[cond_false]
       rw[zg (by intro h;simp;omega)];cases h4:decide ((d.toNat:Int)=120)
       .simp only[Bool.and_false,cond_false,gk,hc,uF,h1,h3,h4]
        rfl
       .simp only[Bool.and_true]
        rcases r with _|⟨a,_|⟨e,r⟩⟩
        .simp only[show decide ((4:Int)<=(([c,d]:eA).length:Int))=false from rfl,cond_false,gk,hc,uF,h1,h3,h4,cond_true]
         rfl
        .simp only[show decide ((4:Int)<=(([c,d,a]:eA).length:Int))=false from rfl,cond_false,gk,hc,uF,h1,h3,h4,cond_true]
         rfl
        .rw[show decide ((4:Int)<=((c::d::a::e::r).length:Int))=true by simp;omega,cond_true]
         rw[zg (by simp;omega)];rw[show List.take (3-2) (List.drop 2 (c::d::a::e::r))=[a]from rfl,show List.take (4-3) (List.drop 3 (c::d::a::e::r))=[e]from rfl];rw[show([48,49,50,51,52,53,54,55,56,57,97,98,99,100,101,102]:eA)=HX from rfl,GM,GM,ze,zg (by simp;omega),ze];rw[show IntKind.u8.wrap (IntKind.i64.wrap (IntKind.i64.wrap (nY HX a*16)+nY HX e))=wt a e from rfl];simp only[length_cons]at hi;rw[zg (by simp;omega),zg (by simp;omega),hnx _ (by simp;omega) (by simp;omega)];simp only[cond_false,gk,hc,uF,h1,h3,h4,cond_true,Option.bind_some];rfl
      .simp only[cond_true]
       rw[zg (by simp;omega),zg (by simp;omega),hnx _ (by simp;omega) (by simp;omega)];simp only[cond_false,gk,hc,uF,h1,h3,cond_true,Option.bind_some];rfl
     .simp only[cond_true]
      rw[show fN (c::d::r) 1=fN (c::d::r) ((1:Nat):Int)from rfl,so (by simp)];simp only[getElem_cons_succ,getElem_cons_zero];rw[zg (by simp;omega),zg (by simp;omega),hnx _ (by simp;omega) (by simp;omega)];simp only[cond_false,gk,hc,uF,h1,cond_true,Option.bind_some];rfl
   .simp only[cond_true]
    rw[zg (by simp;omega),zg (by simp;omega),hnx _ (by simp;omega) (by simp)];simp only[gk,hc,cond_true,Option.bind_some];rfl
 .simp only[Bool.not_false,cond_true]
  cases hu:r9 (gX s)with
  |some t =>
   have hb:=MZ hu;rw[<-hb,Ox,nil_append];simp only[mX]
   have:pq t=s:=by
    unfold pq
    rw[hb];exact hsp.symm
   rw[this];simp only[decide_true,Bool.not_true,cond_false,fg]
  |none =>
   cases hl:jc (gX s) []with
   |none=>rfl
   |some o =>
    have:pq (Go.Vc.strOf o)≠s:=by
     intro h;rw[hsp]at h;unfold pq at h;have h':=(List.cons.inj h).2;have hb:=append_cancel_right h';rw[<-hb,pP]at hu;cases hu
    simp only[decide_eq_false this,Bool.not_false,cond_true,fg]
def jY{α:Type}(q:Nat->α->Bool):Nat->List α->Bool
 |_,[]=>true
 |i,x::l=>q i x&&jY q (i+1) l
section
variable {Z α:Type}
theorem kO{f:Nat->α->Unit->(Unit->Option Z)->(Unit->Option Z)->Option Z}{z:Z}(q:Nat->α->Bool)(hf:∀i x nx k,f i x () nx k=bif q i x then nx ()else some z)(k:Unit->Option Z) :
  ∀(l:List α) (i:Nat),forL l i f () k=bif jY q i l then k ()else some z
 |[],i=>rfl
 |x::l,i=>by
  unfold forL jY;rw[hf,kO q hf k l (i+1)]
  cases q i x <;> rfl
end
def yr(c:UInt8):Bool:=decide (97<=(c.toNat:Int))&&decide ((c.toNat:Int)<=122)
def jD(c:UInt8):Bool:=decide (48<=(c.toNat:Int))&&decide ((c.toNat:Int)<=57)
def uk(c:UInt8):Bool:=((yr c||jD c)||decide ((c.toNat:Int)=45))||decide ((c.toNat:Int)=46)
def gj(s:eA):Bool:=((s.all uk&&(!decide (s=[])&&decide ((s.length:Int)<=40)))&&yr (s.getD 0 0))
theorem S8(a b:Bool):(a||bif !a then b else false)=(a||b):=by cases a <;> rfl
theorem Rx(c:UInt8):HH (c.toNat:Int)=some (uk c):=by
 unfold HH Bx Fp;simp only[ze,ii,S8];rfl
theorem CW(s:eA):sw s=some (gj s):=by
 unfold sw Kq;simp only[eH];rw[sq uk (fun i x nx k=>by simp only[Rx,ze];cases uk x <;> rfl)];simp only[g6,ze];rw[zg]
 .unfold Bx
  simp only[ii];unfold gj yr;generalize hA:s.all uk=A
  cases A <;> simp only[cond_true,cond_false,Bool.false_and,Bool.true_and]
  generalize hB:(!decide (s=[])&&decide ((s.length:Int)<=40))=B
  cases B <;> rfl
 .intro h
  cases s with
  |nil=>cases hA:List.all [] uk <;> rw[hA]at h <;> simp at h
  |cons=>simp only[length_cons];omega
theorem o2{α:Type}{q:Nat->α->Bool}{p:α->Bool}:∀(l:List α) (i:Nat),(∀j x,i<=j->q j x=p x)->jY q i l=l.all p
 |[],i,_=>rfl
 |x::l,i,h=>by
  unfold jY;rw[h i x (Nat.le_refl _),o2 l (i+1) (fun j x hj=>h j x (by omega)),all_cons]
theorem CO(s:eA):xW s=some (gj s):=by
 unfold xW;simp only[eH];refine(kO (z:=false) (fun i c=>!((decide ((i:Int)=0)&&!yr c)||!uk c)) (fun i c nx k=>?_) _ _ _).trans ?_
 .rw[uH]
  congr 1
  unfold uk yr jD;rw[Bool.eq_iff_iff];simp only[Bool.or_eq_true,Bool.and_eq_true,Bool.not_eq_true',decide_eq_true_eq,Bool.or_eq_false_iff,Bool.and_eq_false_iff,decide_eq_false_iff_not,Bool.not_eq_false'];omega
 simp only[g6]
 congr 1
 unfold gj
 cases s with
 |nil=>rfl
 |cons x l =>
  unfold jY;rw[o2 (p:=uk) l 1 (fun j x hj=>by rw[decide_eq_false (by omega)];cases uk x <;> rfl),all_cons];simp only[getD_cons_zero]
  cases uk x <;> cases yr x <;> cases l.all uk <;> simp
def pN(c:UInt8):Bool:=decide (32<=(c.toNat:Int))&&decide ((c.toNat:Int)<=126)
def pt(s:eA):Bool:=s.all pN&&decide ((s.length:Int)<=1000)
theorem M8(s:eA):CG s=some (pt s):=by
 unfold CG;simp only[eH];refine(sq (z:=false) pN (fun i c nx k=>?_) _ _ _).trans ?_
 .rw[uH]
  congr 1
  unfold pN;rw[Bool.eq_iff_iff];simp only[Bool.or_eq_true,Bool.and_eq_true,Bool.not_eq_true',decide_eq_true_eq,Bool.or_eq_false_iff,Bool.and_eq_false_iff,decide_eq_false_iff_not,Bool.not_eq_false'];omega
 .simp only[g6]
  unfold pt
  cases s.all pN <;> rfl
theorem Nd(s:eA):Fo s=some (pt s):=by
 unfold Fo Kr;simp only[eH];rw[sq pN (fun i x nx k=>by unfold KF pN;simp only[ze];rw[uH,Bool.not_not])];simp only[g6,ii];unfold pt
 cases s with
 |nil=>rfl
 |cons x l=>simp only[show decide (x::l=[])=false from rfl,Bool.not_false,Bool.true_and,cond_true,Bool.false_or];cases List.all (x::l) pN <;> rfl
def i6(c:UInt8):Bool:=((((yr c||(decide (65<=(c.toNat:Int))&&decide ((c.toNat:Int)<=90)))||jD c)||decide ((c.toNat:Int)=45))||decide ((c.toNat:Int)=46))||decide ((c.toNat:Int)=95)
def yp(s:eA):Bool:=((s.all i6&&(!decide (s=[])&&decide ((s.length:Int)<=40)))&&!decide (s=[46]))&&!decide (s=[46,46])
theorem pc(s:eA):GC s=some (yp s):=by
 unfold GC;simp only[eH];refine(sq (z:=false) i6 (fun i c nx k=>?_) _ _ _).trans ?_
 .rw[uH]
  congr 1
  unfold i6 yr jD;rw[Bool.eq_iff_iff];simp only[Bool.or_eq_true,Bool.and_eq_true,Bool.not_eq_true',decide_eq_true_eq,Bool.or_eq_false_iff,Bool.and_eq_false_iff,decide_eq_false_iff_not,Bool.not_eq_false'];omega
 .simp only[g6]
  unfold yp
  cases s.all i6 <;> rfl
theorem NP(a b d:Bool):((a||b)||bif !(a||b)then d else false)=((a||b)||d):=by cases a <;> cases b <;> rfl
theorem QK(s:eA):Hm s=some (yp s):=by
 unfold Hm Ks;simp only[eH]
 rw[sq i6 (fun i x nx k=>by
  unfold Ky i6 Bx Fp yr jD;simp only[ze,ii,NP]
  rw[uH,Bool.not_not])]
 simp only[g6,ze];unfold yp
 cases s.all i6 <;> rfl
def gp(s:eA):Bool:=(zO 47 s).all yp&&decide ((s.length:Int)<=200)
theorem Hg(s:eA)(hs:s.length<=17179869184):yE s=some (gp s):=by
 unfold yE gp;simp only[eH,GA s 47 hs,ze];rw[sq yp (fun i x nx k=>by rw[pc,ze,uH,Bool.not_not])]
 cases (zO 47 s).all yp <;> rfl
theorem KE(s:eA)(hs:s.length<=17179869184):CI s=some (gp s):=by
 unfold CI gp;simp only[eH,GA s 47 hs,ze];rw[sq yp (fun i x nx k=>by rw[QK,ze,uH,Bool.not_not])]
 cases (zO 47 s).all yp <;> rfl
def mZ(a b:eA):Bool:=lh a b||decide (a=b)
theorem ET(b:Bool)(e:Int):pG b e=some (bif b then e else 0):=by cases b <;> rfl
def gP(a b:Int):Int:=bif !decide (a=0)then a else b
theorem Ei(a:Int):lu [a]=some a:=by
 unfold lu;simp only[eH,forL]
 by_cases h:a=0
 .subst h;rfl
 .rw[decide_eq_false h];rfl
theorem Ou(a:Int)(l:List Int)(r:Int)(h:lu l=some r):lu (a::l)=some (gP a r):=by
 unfold lu at *;simp only[eH,forL]at *;unfold gP
 by_cases ha:a=0
 .subst ha
  simp only[decide_true,Bool.not_true,cond_false];rw[<-h]
  have:∀(l:List Int) (i j:Nat),forL l i (fun i_14 e_16 s nx_13 k_12=>bif !decide (e_16=0)then some e_16 else nx_13 ()) () (fun _=>some (0:Int))=forL l j (fun i_14 e_16 s nx_13 k_12=>bif !decide (e_16=0)then some e_16 else nx_13 ()) () (fun _=>some (0:Int)):=by
   intro l
   induction l with
   |nil=>intro i j;rfl
   |cons x l ih=>intro i j;unfold forL;simp only[ih (i+1) (j+1)]
  exact this l _ _
 .rw[decide_eq_false ha];rfl
theorem Ci(a b:Int):lu [a,b]=some (gP a b):=Ou a _ _ (Ei b)
theorem Eh(a b c:Int):lu [a,b,c]=some (gP a (gP b c)):=Ou a _ _ (Ci b c)
def uh(s:aa):Int:=bif !gj s.e then 5 else bif !pt s.Value then 2 else 0
def jJ(s:aa):Int:=bif !gp s.e then 5 else bif !pt s.Value then 2 else 0
def iv(f:ab):Int:=bif !gp f.a then 5 else bif decide (65536<(f.q.length:Int))then 4 else 0
def jZ(s:ah):Int:=bif !gj s.j||!gp s.a then 5 else 0
def ord(i:Nat)(a last:eA):Bool:=decide (0<(i:Int))&&mZ a last
def iw{α:Type}(e:α->Int)(nm:α->eA):Nat->eA->List α->Int
 |_,_,[]=>0
 |i,last,x::l=>bif !decide (e x=0)then e x else bif ord i (nm x) last then 7 else iw e nm (i+1) (nm x) l
theorem Ko{α:Type}(e:α->Int)(nm:α->eA)(a b:eA)(l:List α):iw e nm 0 a l=iw e nm 0 b l:=by
 cases l <;> rfl
section
variable {Z α:Type} {e:α->Int} {nm:α->eA}
theorem B0{f:Nat->α->eA->(eA->Option Int)->(eA->Option Int)->Option Int}{K:eA->Option Int}(P:α->Prop)
  (hf:∀i x last nx k,P x->f i x last nx k=bif !decide (gP (e x) (bif ord i (nm x) last then 7 else 0)=0)then some (gP (e x) (bif ord i (nm x) last then 7 else 0))else nx (nm x)) :
  ∀(l:List α) (i:Nat) (last:eA),(∀x∈l,P x)->∃last',forL l i f last K=bif !decide (iw e nm i last l=0)then some (iw e nm i last l)else K last'
 |[],i,last,_=>⟨last,rfl⟩
 |x::l,i,last,hp=>by
  obtain⟨last',h⟩:=B0 P hf l (i+1) (nm x) (fun y hy=>hp y (mem_cons_of_mem _ hy));refine⟨last',?_⟩;unfold forL iw;rw[hf _ _ _ _ _ (hp x (mem_cons_self ..)),h];unfold gP
  by_cases h1:e x=0
  .simp only[h1,decide_true,Bool.not_true,cond_false]
   cases ord i (nm x) last <;> rfl
  .simp only[decide_eq_false h1,Bool.not_false,cond_true]
theorem rn{f:Nat->α->Unit->(Unit->Option Int)->(Unit->Option Int)->Option Int}{K:Unit->Option Int}(P:α->Prop)(L:List α)(d:α)
  (hf:∀(i:Nat) x nx k,P x->i<L.length->f i x () nx k=bif !decide (e x=0)then some (e x)else bif ord i (nm x) (nm (L.getD (i-1) d))then some 7 else nx ()) :
  ∀(l:List α) (i:Nat),L.drop i=l->(∀x∈l,P x)->forL l i f () K=bif !decide (iw e nm i (nm (L.getD (i-1) d)) l=0)then some (iw e nm i (nm (L.getD (i-1) d)) l)else K ()
 |[],i,_,_=>rfl
 |x::l,i,hd,hp=>by
  have hi:i<L.length:=by
   rcases Nat.lt_or_ge i L.length with h|h
   .exact h
   .rw[drop_eq_nil_of_le h]at hd;cases hd
  have hx:L.getD i d=x:=by
   have:=drop_eq_getElem_cons hi;rw[hd]at this;have:=(List.cons.inj this).1
   rw[this];simp[hi]
  have hd':L.drop (i+1)=l:=by
   have:=congrArg List.tail hd
   simpa using this
  unfold forL iw;rw[hf _ _ _ _ (hp x (mem_cons_self ..)) hi,rn P L d hf l (i+1) hd' (fun y hy=>hp y (mem_cons_of_mem _ hy))];simp only[Nat.add_sub_cancel,hx]
  by_cases h1:e x=0
  .simp only[h1,decide_true,Bool.not_true,cond_false]
   cases ord i (nm x) (nm (L.getD (i-1) d)) <;> rfl
  .simp only[decide_eq_false h1,Bool.not_false,cond_true]
end
theorem JE(i:Nat)(s last:eA):BE (i:Int) s last=some ((bif ord i s last then 7 else 0),s):=by
 unfold BE
 rw[ET,ze];rfl
def Sm(s:eA):Prop:=s.length<=17179869184
theorem PH(f:ab)(h:Sm f.a):Fq f=some (iv f):=by
 unfold Fq;rw[Hg _ h];simp only[ze,ET,Ci];unfold iv gP
 cases gp f.a <;> rfl
theorem PZ(f:aa)(h:Sm f.e):FF f=some (jJ f):=by
 unfold FF;rw[Hg _ h,M8];simp only[ze,ET,Ci];unfold jJ gP
 cases gp f.e <;> rfl
theorem PY(f:ah)(h:Sm f.a):FE f=some (jZ f):=by
 unfold FE;rw[Hg _ h,CO];simp only[ze,ii,ET];unfold jZ
 cases gj f.j <;> cases gp f.a <;> rfl
theorem Nh(f:ab)(h:Sm f.a):BM f=some (iv f):=by
 unfold BM;rw[KE _ h];simp only[ze];unfold iv;cases gp f.a
 .rfl
 .simp only[Bool.not_true,cond_false,g6]
theorem xH(f:aa)(h:Sm f.e):Hr f=some (jJ f):=by
 unfold Hr BN;rw[KE _ h,Nd];simp only[ze];unfold jJ
 cases gp f.e <;> cases pt f.Value <;> rfl
theorem uc(f:aa):Hq f=some (uh f):=by
 unfold Hq KV;rw[CW,Nd];simp only[ze];unfold uh
 cases gj f.e <;> cases pt f.Value <;> rfl
theorem pj(f:ah)(h:Sm f.a):FW f=some (jZ f):=by
 unfold FW;rw[KE _ h,CW];simp only[ze,ii];unfold jZ
 cases gj f.j <;> cases gp f.a <;> rfl
theorem Mv{i:Nat}(h:0<i)(h2:i<=274877906944):IntKind.i64.wrap ((i:Int)-1)=((i-1:Nat):Int):=by rw[gI (by omega) (by omega)];omega
theorem NO{i:Nat}{a b:eA}:(decide (0<(i:Int))&&(lh a b||decide (a=b)))=ord i a b:=rfl
theorem wK(l:List aa)(hl:l.length<=17179869184):H9 l=some (iw uh (·.e) 0 [] l):=by
 unfold H9;simp only[eH]
 rw[rn (e:=uh) (nm:=(·.e)) (fun _=>True) l ⟨[],[]⟩ (fun i x nx k _ hi=>by
  rw[uc];simp only[ze,sx,ii]
  cases hg:decide (0<(i:Int))with
  |false=>rw[zg (by intro h;cases h)];unfold ord;rw[hg];rfl
  |true =>
   have hi0:0<i:=by simpa using hg
   rw[Mv hi0 (by omega),zg (by intro _;omega)];simp only[cond_true,Int.toNat_natCast]
   unfold ord mZ;rw[hg]) l 0 rfl (fun _ _=>trivial)]
 rw[g6];rw[Ko uh (·.e) _ []];cases h:decide (iw uh (·.e) 0 [] l=0)
 .rfl
 .rw[of_decide_eq_true h];rfl
theorem wJ(l:List aa)(hl:l.length<=17179869184)(hs:∀x∈l,Sm x.e):F0 l=some (iw jJ (·.e) 0 [] l):=by
 unfold F0;simp only[eH]
 rw[rn (e:=jJ) (nm:=(·.e)) (fun x=>Sm x.e) l ⟨[],[]⟩ (fun i x nx k hx hi=>by
  rw[xH _ hx];simp only[ze,sx,ii]
  cases hg:decide (0<(i:Int))with
  |false=>rw[zg (by intro h;cases h)];unfold ord;rw[hg];rfl
  |true =>
   have hi0:0<i:=by simpa using hg
   rw[Mv hi0 (by omega),zg (by intro _;omega)];simp only[cond_true,Int.toNat_natCast]
   unfold ord mZ;rw[hg]) l 0 rfl hs]
 rw[g6];rw[Ko jJ (·.e) _ []];cases h:decide (iw jJ (·.e) 0 [] l=0)
 .rfl
 .rw[of_decide_eq_true h];rfl
theorem AC(l:List ah)(hl:l.length<=17179869184)(hs:∀x∈l,Sm x.a):FZ l=some (iw jZ (·.j) 0 [] l):=by
 unfold FZ;simp only[eH]
 rw[rn (e:=jZ) (nm:=(·.j)) (fun x=>Sm x.a) l ⟨[],[],false,false⟩ (fun i x nx k hx hi=>by
  rw[pj _ hx];simp only[ze,x8,ii]
  cases hg:decide (0<(i:Int))with
  |false=>rw[zg (by intro h;cases h)];unfold ord;rw[hg];rfl
  |true =>
   have hi0:0<i:=by simpa using hg
   rw[Mv hi0 (by omega),zg (by intro _;omega)];simp only[cond_true,Int.toNat_natCast]
   unfold ord mZ;rw[hg]) l 0 rfl hs]
 rw[g6];rw[Ko jZ (·.j) _ []];cases h:decide (iw jZ (·.j) 0 [] l=0)
 .rfl
 .rw[of_decide_eq_true h];rfl
abbrev Mp:=List (eA×Bool)
def g4(m:Mp)(path:eA)(i:Nat)(c:UInt8):Bool:=!(decide ((c.toNat:Int)=47)&&(zp m (path.take i)).getD false)
def yf(m:Mp)(path:eA):Bool:=jY (g4 m path) 0 path
def uM:Nat->eA->Mp->List ab->Int
 |_,_,_,[]=>0
 |i,last,m,x::l=>bif !decide (iv x=0)then iv x else bif ord i x.a last then 7 else bif !yf m x.a then 11 else uM (i+1) x.a (eG m x.a true) l
theorem ol(a b:eA)(m:Mp)(l:List ab):uM 0 a m l=uM 0 b m l:=by cases l <;> rfl
theorem J0:∀(m:Mp) (k:eA) (v:Bool),(eG m k v).length<=m.length+1
 |[],k,v=>by simp[eG]
 |p::m,k,v=>by
  unfold eG;have:=J0 m k v
  cases decide (p.1=k) <;> simp <;> omega
theorem xD(path:eA)(m:Mp):FI path m=some (yf m path):=by
 unfold FI;simp only[eH]
 have hk:∀i:Nat,True:=fun _=>trivial
 have:∀(l:eA) (i:Nat),path.drop i=l->forL l i (fun i_44 c_46 s nx_43 k_42 =>
  eB ((decide ((c_46.toNat:Int)=47))=true->(0<=(i_44:Int)/\(i_44:Int)<=(path.length:Int))) <|
  callG (decide ((c_46.toNat:Int)=47)) (HR (List.take i_44 path) m) false fun r_48 =>
  bif ((decide ((c_46.toNat:Int)=47))&&(!r_48))then
   some false
  else
  nx_43 ()) () (fun _=>some true)=some (jY (g4 m path) i l):=by
  intro l
  induction l with
  |nil=>intro i _;rfl
  |cons c l ih =>
   intro i hd
   have hi:i<path.length:=by
    rcases Nat.lt_or_ge i path.length with h|h
    .exact h
    .rw[drop_eq_nil_of_le h]at hd;cases hd
   unfold forL jY;simp only[ih (i+1) (by have:=congrArg List.tail hd;simpa using this)];rw[zg (by intro _;omega)];simp only[HR,fc,ii];unfold g4
   cases decide ((c.toNat:Int)=47) <;> cases (zp m (List.take i path)).getD false <;> rfl
 exact this path 0 rfl
theorem OP(path:eA)(m:Mp){f:Int×Int->(Int×Int->Option Int)->(Int×Int->Option Int)->Option Int}{K:Int×Int->Option Int}(hp:path.length<=17179869184)
  (hf:∀(e:Int) (i:Nat) nx,f (e,(i:Int)) nx K=if h:i<path.length then nx ((bif g4 m path i path[i]then e else 11),((i+1:Nat):Int))else K (e,(i:Int))) :
  ∀(n:Nat) (e:Int) (i:Nat),path.length+1<=n+i->i<=path.length->loopN n f (e,(i:Int)) K=K ((bif jY (g4 m path) i (path.drop i)then e else 11),(path.length:Int))
 |0,e,i,h1,h2=>by omega
 |n+1,e,i,h1,h2=>by
  unfold loopN;rw[hf]
  by_cases h:i<path.length
  .rw[dif_pos h,OP path m hp hf n _ (i+1) (by omega) (by omega),drop_eq_getElem_cons h]
   rw[show jY (g4 m path) i (path[i]::path.drop (i+1))=(g4 m path i path[i]&&jY (g4 m path) (i+1) (path.drop (i+1)))from rfl]
   cases g4 m path i path[i] <;> cases jY (g4 m path) (i+1) (path.drop (i+1)) <;> rfl
  .have:i=path.length:=by omega
   subst this
   rw[dif_neg h,drop_length];rfl
theorem qy{f:Nat->ab->eA×Mp->(eA×Mp->Option Int)->(eA×Mp->Option Int)->Option Int}{K:eA×Mp->Option Int}
  (hf:∀(i:Nat) x last (m:Mp) nx,Sm x.a->m.length+1<=17179869184->f i x (last,m) nx K=bif !decide (iv x=0)then some (iv x)else bif ord i x.a last then some 7 else bif !yf m x.a then some 11 else nx (x.a,eG m x.a true)) :
  ∀(l:List ab) (i:Nat) (last:eA) (m:Mp),m.length+l.length<=17179869184->(∀x∈l,Sm x.a)->∃s',forL l i f (last,m) K=bif !decide (uM i last m l=0)then some (uM i last m l)else K s'
 |[],i,last,m,_,_=>⟨(last,m),rfl⟩
 |x::l,i,last,m,hm,hp=>by
  have ha:=J0 m x.a true;simp only[length_cons]at hm;obtain⟨s',h⟩:=qy hf l (i+1) x.a (eG m x.a true) (by omega) (fun y hy=>hp y (mem_cons_of_mem _ hy));refine⟨s',?_⟩;unfold forL uM;rw[hf _ _ _ _ _ (hp x (mem_cons_self ..)) (by omega),h]
  by_cases h1:iv x=0
  .simp only[h1,decide_true,Bool.not_true,cond_false]
   cases ord i x.a last
   .cases yf m x.a <;> rfl
   .rfl
  .simp only[decide_eq_false h1,Bool.not_false,cond_true]
def yv(m:ai):Int :=
 bif ((((decide (100<(m.m.length:Int)))||(decide (2000<(m.b.length:Int))))||(decide (2000<(m.i.length:Int))))||(decide (100<(m.h.length:Int))))then 4 else
 gP (iw uh (·.e) 0 [] m.m) (gP (uM 0 [] [] m.b) (gP (iw jJ (·.e) 0 [] m.i) (iw jZ (·.j) 0 [] m.h)))
structure EG(m:ai):Prop where
 facts:m.m.length<=17179869184
 files:m.b.length<=17179869184
 sets:m.i.length<=17179869184
 svcs:m.h.length<=17179869184
 fp:∀x∈m.b,Sm x.a
 sp:∀x∈m.i,Sm x.e
 vp:∀x∈m.h,Sm x.a
theorem Gv(a b:Int)(o:Option Int)(h:o=some b):(bif !decide (a=0)then some a else o)=some (gP a b):=by
 subst h;unfold gP;cases decide (a=0) <;> rfl
theorem Kz(m:ai)(h:EG m):Bp m=some (yv m):=by
 unfold Bp yv;generalize ((((decide (100<(m.m.length:Int)))||(decide (2000<(m.b.length:Int))))||(decide (2000<(m.i.length:Int))))||(decide (100<(m.h.length:Int))))=B
 cases B with
 |true=>rfl
 |false =>
  simp only[cond_false];rw[wK _ h.facts,ze];refine Gv _ _ _ ?_;simp only[eH]
  obtain⟨s',hs⟩:=qy (f:=fun i_47 f_49 s nx_46 k_45 =>
   match s with
   |(before_37,m1_39) =>
    call (BM f_49) fun r_50 =>
    bif !decide (r_50=0)then
     some r_50
    else
    bif ((decide (0<(i_47:Int)))&&(lh f_49.a before_37||decide (f_49.a=before_37)))then
     some 7
    else
    call (FI f_49.a m1_39) fun r_51 =>
    bif !r_51 then
     some 11
    else
    eB ((eG m1_39 f_49.a true).length<=274877906944) <|
    nx_46 (f_49.a,eG m1_39 f_49.a true)) (K:=fun s=>match s with
   |(before_37,m1_39)=>call (F0 m.i) fun r_28 =>
    bif !decide (r_28=0)then
     some r_28
    else
    call (FZ m.h) fun r_29 =>
    some r_29) (fun i x last mm nx hx hl=>by
    have ha:=J0 mm x.a true;simp only[Nh _ hx,ze,xD,NO]
    rw[zg (by omega)]) m.b 0 [] [] (by simpa using h.files) h.fp
  rw[hs];refine Gv _ _ _ ?_;obtain⟨x,y⟩:=s';simp only[wJ _ h.sets h.sp,AC _ h.svcs h.vp,ze];exact Gv _ _ _ rfl
theorem LW{α:Type}{e:α->Int}{nm:α->eA}{f:Nat->α->eA->(eA->Option Int)->(eA->Option Int)->Option Int}{K:eA->Option Int}{r:Int}{l:List α}{last:eA}(P:α->Prop)
  (hf:∀i x last nx k,P x->f i x last nx k=bif !decide (gP (e x) (bif ord i (nm x) last then 7 else 0)=0)then some (gP (e x) (bif ord i (nm x) last then 7 else 0))else nx (nm x))
  (hp:∀x∈l,P x) (hK:∀last,K last=some r):forL l 0 f last K=some (gP (iw e nm 0 [] l) r):=by
 obtain⟨last',h⟩:=B0 (K:=K) P hf l 0 last hp;rw[h,Ko e nm last []];exact Gv _ _ _ (hK _)
theorem tu{f:Nat->ab->eA×Mp->(eA×Mp->Option Int)->(eA×Mp->Option Int)->Option Int}{K:eA×Mp->Option Int}{r:Int}{l:List ab}{last:eA}
  (hf:∀(i:Nat) x last (m:Mp) nx,Sm x.a->m.length+1<=17179869184->f i x (last,m) nx K=bif !decide (iv x=0)then some (iv x)else bif ord i x.a last then some 7 else bif !yf m x.a then some 11 else nx (x.a,eG m x.a true))
  (hl:l.length<=17179869184) (hp:∀x∈l,Sm x.a) (hK:∀s,K s=some r):forL l 0 f (last,[]) K=some (gP (uM 0 [] [] l) r):=by
 obtain⟨s',h⟩:=qy (K:=K) hf l 0 last [] (by simpa using hl) hp;rw[h,ol last []];exact Gv _ _ _ (hK _)
theorem tQ(path:eA)(m:Mp){f:Int×Int->(Int×Int->Option Int)->(Int×Int->Option Int)->Option Int}{K:Int×Int->Option Int}{N:Nat}{e:Int}(hN:1099511627776<=N)(hp:path.length<=17179869184)
  (hf:∀(e:Int) (i:Nat) nx,f (e,(i:Int)) nx K=if h:i<path.length then nx ((bif g4 m path i path[i]then e else 11),((i+1:Nat):Int))else K (e,(i:Int))) :
  loopN N f (e,0) K=K ((bif yf m path then e else 11),(path.length:Int)) :=
 OP path m hp hf N e 0 (by omega) (by omega)
theorem Od(m:ai)(h:EG m):ER m=some (yv m):=by
 unfold ER yv;generalize ((((decide (100<(m.m.length:Int)))||(decide (2000<(m.b.length:Int))))||(decide (2000<(m.i.length:Int))))||(decide (100<(m.h.length:Int))))=B;obtain⟨N,hN⟩:∃N,fJ=N:=⟨_,rfl⟩;have hN2:1099511627776<=N:=hN ▸ un;rw[hN];clear hN
 cases B with
 |true=>rfl
 |false =>
  simp only[cond_false,eH]
  refine LW (e:=uh) (nm:=(·.e)) (fun _=>True) (fun i x last nx k _=>?_) (fun _ _=>trivial) fun last=>?_
  .simp only[CO,M8,ze,ET,JE,Eh]
   unfold uh gP
   cases gj x.e <;> cases pt x.Value <;> cases ord i x.e last <;> rfl
  refine tu (fun i x last mm nx hx hl=>?_) h.files h.fp fun s=>?_
  .have ha:=J0 mm x.a true
   simp only[PH _ hx,ze,JE,Ci]
   by_cases h1:iv x=0
   .cases ho:ord i x.a last with
    |true=>simp only[h1,cond_true,show gP 0 7=7 from rfl];rfl
    |false =>
     simp only[h1,cond_false,show gP 0 0=0 from rfl,decide_true,Bool.not_true,cond_true];rw[tQ x.a mm hN2 hx (fun e i nx=>?_)]
     .rw[zg (by omega)]
      cases yf mm x.a <;> rfl
     .simp only[fc]
      by_cases hi:i<x.a.length
      .rw[dif_pos hi,decide_eq_true (by omega),cond_true,so hi,zg (by intro _;omega)]
       have hw:IntKind.i64.wrap ((i:Int)+1)=((i+1:Nat):Int):=by
        have:x.a.length<=17179869184:=hx
        rw[gI (by omega) (by omega)];rfl
       simp only[hw,Int.toNat_natCast];unfold g4
       cases decide (((x.a[i]).toNat:Int)=47)&&(zp mm (List.take i x.a)).getD false <;> rfl
      .rw[dif_neg hi,decide_eq_false (by omega),cond_false]
   .have:gP (iv x) (bif ord i x.a last then 7 else 0)=iv x:=by unfold gP;rw[decide_eq_false h1];rfl
    simp only[this,decide_eq_false h1,Bool.not_false,cond_true,cond_false]
  obtain⟨last,mm⟩:=s
  refine LW (e:=jJ) (nm:=(·.e)) (fun x=>Sm x.e) (fun i x last nx k hx=>?_) h.sp fun last=>?_
  .simp only[PZ _ hx,ze,JE,Ci]
  rw[show iw jZ (fun x=>x.j) 0 [] m.h=gP (iw jZ (fun x=>x.j) 0 [] m.h) 0 by unfold gP;cases hh:decide (iw jZ (fun x=>x.j) 0 [] m.h=0) <;> simp_all]
  refine LW (e:=jZ) (nm:=(·.j)) (fun x=>Sm x.a) (fun i x last nx k hx=>?_) h.vp fun last=>rfl
  simp only[PY _ hx,ze,JE,Ci]
abbrev ik:eA:=[102,97,99,116]
abbrev gR:eA:=[115,101,116]
abbrev ij:eA:=[102,105,108,101]
abbrev jQ:eA:=[114,117,110]
abbrev gS:eA:=[112,117,116]
abbrev pu:eA:=[112,117,116,114,117,110]
abbrev sr:eA:=[115,101,114,118,105,99,101]
abbrev sj:eA:=[114,101,109,111,118,101]
abbrev sf:eA:=[117,110,115,101,116]
abbrev sa:eA:=[100,114,111,112]
def fw:ab:=⟨[],[],false⟩
def fU:aa:=⟨[],[]⟩
def fu:ah:=⟨[],[],false,false⟩
def gz(s:eA):Bool:=decide (s=([48]:eA))||decide (s=([49]:eA))
def fZ(k:eA):List eA->Option ah
 |[a,b,c]=>bif (decide (a=[])||!gz b)||!gz c then none else some ⟨k,a,decide (b=([49]:eA)),decide (c=([49]:eA))⟩
 |_=>none
def lr(l:eA):eA:=(eK 32 l).1
def gx(l:eA):eA:=(eK 32 l).2.1
def fK(l:eA):eA:=(eK 32 (gx l)).1
def zbW(l:eA):eA:=(eK 32 (gx l)).2.1
def fX(l:eA):Bool:=(eK 32 (gx l)).2.2
def hU(l:eA):ak×Bool :=
 let w:=lr l;let k:=fK l;let u:=iu (zbW l)
 bif !(eK 32 l).2.2||decide (k=[])then(⟨[],fw,fU,fu⟩,false)else
 bif decide (w=ik)||decide (w=gR)then(⟨w,fw,⟨k,u.1⟩,fu⟩,fX l&&decide (u.2=0))else
 bif ((decide (w=ij)||decide (w=jQ))||decide (w=gS))||decide (w=pu)then(⟨w,⟨k,u.1,decide (w=jQ)||decide (w=pu)⟩,fU,fu⟩,fX l&&decide (u.2=0))else
 bif decide (w=sr)then(match fX l,fZ k (zO 32 (zbW l))with
  |true,some s=>(⟨w,fw,fU,s⟩,true)
  |_,_=>(⟨[],fw,fU,fu⟩,false))else
 bif decide (w=sj)then(⟨w,⟨k,[],false⟩,fU,fu⟩,!fX l)else
 bif decide (w=sf)then(⟨w,fw,⟨k,[]⟩,fu⟩,!fX l)else
 bif decide (w=sa)then(⟨w,fw,fU,⟨k,[],false,false⟩⟩,!fX l)else
 (⟨w,fw,fU,fu⟩,!fX l)
theorem NV{p:List eA}(h:p.length=3):∃a b c,p=[a,b,c]:=by
 rcases p with _|⟨a,_|⟨b,_|⟨c,_|⟨d,p⟩⟩⟩⟩ <;> simp at h
 exact⟨a,b,c,rfl⟩
theorem nk(l:eA)(hl:l.length<=17179869184):FJ l=some (hU l):=by
 have h1:=uS 32 l;have h2:=uS 32 (gx l);unfold FJ;rw[jm l 32 (by omega),ze,jm _ 32 (by omega),ze];rw[show(eK 32 l).1=lr l from rfl,show(eK 32 l).2.1=gx l from rfl]at *;rw[show(eK 32 (gx l)).1=fK l from rfl,show(eK 32 (gx l)).2.1=zbW l from rfl,show(eK 32 (gx l)).2.2=fX l from rfl]at *;unfold hU
 have hv:(zbW l).length<=17179869184:=by omega
 simp only[Rn _ hv,GA _ 32 hv,ze,eH];generalize lr l=w;generalize fK l=k;generalize zbW l=v;generalize fX l=two;cases (!(eK 32 l).2.2||decide (k=[]))
 rotate_left
 .rfl
 simp only[cond_false];cases e1:decide (w=ik)
 rotate_left
 .rfl
 simp only[cond_false,Bool.false_or];cases e2:decide (w=gR)
 rotate_left
 .rfl
 simp only[cond_false];cases e3:decide (w=ij)
 rotate_left
 .simp only[cond_true,Bool.true_or];rfl
 simp only[cond_false,Bool.false_or];cases e4:decide (w=jQ)
 rotate_left
 .simp only[cond_true,Bool.true_or];rfl
 simp only[cond_false,Bool.false_or];cases e5:decide (w=gS)
 rotate_left
 .simp only[cond_true,Bool.true_or];rfl
 simp only[cond_false,Bool.false_or];cases e6:decide (w=pu)
 rotate_left
 .simp only[cond_true];rfl
 simp only[cond_false];cases e7:decide (w=sr)
 rotate_left
 .simp only[cond_true]
  by_cases h3:(zO 32 v).length=3
  .obtain⟨a,b,c,hp⟩:=NV h3
   rw[hp];simp only[Hb,ii];cases two
   .simp only[Bool.not_false,Bool.true_or,Bool.not_true,cond_true]
    rw[zg (by intro h;cases h),zg (by intro h;cases h),zg (by intro h;cases h)];rfl
   .rw[zg (by intro _;simp),zg (by intro _;simp),zg (by intro _;simp)]
    simp only[show decide ((([a,b,c]:List eA).length:Int)=3)=true from rfl,Bool.not_true,Bool.or_self,Bool.false_or,show([a,b,c]:List eA).getD 0 []=a from rfl,show([a,b,c]:List eA).getD 1 []=b from rfl,show([a,b,c]:List eA).getD 2 []=c from rfl];simp only[fZ];rw[show(decide (b=([48]:eA))||decide (b=([49]:eA)))=gz b from rfl,show(decide (c=([48]:eA))||decide (c=([49]:eA)))=gz c from rfl];cases decide (a=([]:eA))
    .cases gz b
     .rfl
     .cases gz c
      .rfl
      .simp only[Bool.not_false,Bool.not_true,cond_true,cond_false,Bool.or_self]
       show eV [a,b,c] ((0:Nat):Int) _=_
       rw[fF (by simp)]
       show eV [a,b,c] ((1:Nat):Int) _=_
       rw[fF (by simp)]
       show eV [a,b,c] ((2:Nat):Int) _=_
       rw[fF (by simp)];rfl
    .rfl
  .have hd:decide (((zO 32 v).length:Int)=3)=false:=by simp only[decide_eq_false_iff_not];omega
   have hs:fZ k (zO 32 v)=none:=by
    unfold fZ;split
    .rename_i h;rw[h]at h3;simp at h3
    .rfl
   rw[hd,hs];simp only[Bool.not_false,Bool.or_true,Bool.not_true,Bool.true_or,MM,ii,cond_true,cond_false];rw[zg (by intro h;cases h),zg (by intro h;cases h),zg (by intro h;cases h)]
   cases two <;> rfl
 simp only[cond_false];cases e8:decide (w=sj)
 rotate_left
 .rfl
 simp only[cond_false];cases e9:decide (w=sf)
 rotate_left
 .rfl
 simp only[cond_false];cases e10:decide (w=sa)
 rotate_left
 .rfl
 rfl
def p5:List eA->Option ah
 |n::r=>bif decide (n=[])then none else fZ n r
 |[]=>none
theorem NU{p:List eA}(h:p.length=4):∃a b c d,p=[a,b,c,d]:=by
 rcases p with _|⟨a,_|⟨b,_|⟨c,_|⟨d,_|⟨e,p⟩⟩⟩⟩⟩ <;> simp at h
 exact⟨a,b,c,d,rfl⟩
def NL(o:Option ah):ah×Bool:=match o with
 |some s=>(s,true)
 |none=>(fu,false)
theorem AV(s:eA):(!decide (s=([48]:eA))&&!decide (s=([49]:eA)))=!gz s:=by
 unfold gz
 cases decide (s=([48]:eA)) <;> cases decide (s=([49]:eA)) <;> rfl
theorem lE(p:List eA):Hh p=some (NL (p5 p)):=by
 unfold Hh
 by_cases h4:p.length=4
 .obtain⟨a,b,c,d,rfl⟩:=NU h4
  rw[zg (by intro _;simp),zg (by intro _;simp),zg (by intro _;simp),zg (by intro _;simp),zg (by intro _;simp),zg (by intro _;simp)];rw[show decide ((([a,b,c,d]:List eA).length:Int)=4)=true from rfl];simp only[Bool.not_true,Bool.false_or,show([a,b,c,d]:List eA).getD 0 []=a from rfl,show([a,b,c,d]:List eA).getD 1 []=b from rfl,show([a,b,c,d]:List eA).getD 2 []=c from rfl,show([a,b,c,d]:List eA).getD 3 []=d from rfl,AV];simp only[p5,fZ];cases decide (a=([]:eA))
  .cases decide (b=([]:eA))
   .cases gz c
    .rfl
    .cases gz d
     .rfl
     .simp only[Bool.not_true,Bool.or_self,cond_false]
      show eV [a,b,c,d] ((0:Nat):Int) _=_
      rw[fF (by simp)]
      show eV [a,b,c,d] ((1:Nat):Int) _=_
      rw[fF (by simp)]
      show eV [a,b,c,d] ((2:Nat):Int) _=_
      rw[fF (by simp)]
      show eV [a,b,c,d] ((3:Nat):Int) _=_
      rw[fF (by simp)];rfl
   .rfl
  .rfl
 .have hd:decide ((p.length:Int)=4)=false:=by simp only[decide_eq_false_iff_not];omega
  rw[hd];simp only[Bool.not_false,Bool.not_true,Bool.true_or,Bool.false_and,cond_true];rw[zg (by intro h;cases h),zg (by intro h;cases h),zg (by intro h;cases h),zg (by intro h;cases h),zg (by intro h;cases h),zg (by intro h;cases h)]
  have:p5 p=none:=by
   cases p with
   |nil=>rfl
   |cons n r =>
    simp only[p5];cases decide (n=[])
    .simp only[cond_false]
     unfold fZ;split
     .simp at h4
     .rfl
    .rfl
  rw[this];rfl
theorem qf(s:eA)(hs:s.length<=17179869184):GD s=some ((eK 32 s).1,(iu (eK 32 s).2.1).1,((eK 32 s).2.2&&(!decide ((eK 32 s).1=[])))&&decide ((iu (eK 32 s).2.1).2=0)):=by
 have h1:=uS 32 s;unfold GD;rw[jm s 32 (by omega),ze,mw _ (by omega),ze]
theorem sN(l:eA):p5 (zO 32 (gx l))=bif fX l&&!decide (fK l=[])then fZ (fK l) (zO 32 (zbW l))else none:=by
 rw[BA];rw[show(eK 32 (gx l)).1=fK l from rfl,show(eK 32 (gx l)).2.1=zbW l from rfl,show(eK 32 (gx l)).2.2=fX l from rfl];cases fX l
 .rw[if_neg (by simp)]
  simp only[p5,Bool.false_and,cond_false]
  cases decide (gx l=[]) <;> rfl
 .rw[if_pos rfl]
  simp only[p5,Bool.true_and]
  cases decide (fK l=[]) <;> rfl
theorem wn{l:eA}(h:(eK 32 l).2.2=false):fK l=[]:=by
 by_cases hm:(32:UInt8)∈l
 .rw[(mM hm).1]at h;cases h
 .unfold fK gx
  rw[uu hm];rfl
theorem vm{k:eA}{p:List eA}{s:ah}(h:fZ k p=some s):∃x∈p,s.a=x:=by
 unfold fZ at h;split at h
 .rename_i a b c
  cases hq:(decide (a=[])||!gz b)||!gz c
  .rw[hq,cond_false]at h
   have:=(Option.some.inj h).symm;exact⟨a,by simp,by rw[this]⟩
  .rw[hq]at h;cases h
 .cases h
theorem kH(l:eA):(fK l).length<=l.length/\(zbW l).length<=l.length:=by
 have h1:=uS 32 l;have h2:=uS 32 (gx l);have:(gx l).length<=l.length:=h1.2.1;unfold fK zbW;omega
theorem GQ{α:Type}(l:List α)(q:α->α->Bool)(hq:∀x,q x x=true):∀(r:List α) (i:Nat),l.drop i=r->forL r i (fun i x (_:Unit) nx (_:Unit->Option Bool)=>eV l (i:Int) fun y=>bif !q x y then some false else nx ()) () (fun _=>some true)=some true
 |[],i,_=>rfl
 |x::r,i,hd=>by
  have hi:i<l.length:=by
   rcases Nat.lt_or_ge i l.length with h|h
   .exact h
   .rw[drop_eq_nil_of_le h]at hd;cases hd
  have hx:l[i]=x:=by
   have:=drop_eq_getElem_cons hi;rw[hd]at this;exact(List.cons.inj this).1.symm
  have hd':l.drop (i+1)=r:=by
   have:=congrArg List.tail hd
   simpa using this
  unfold forL;simp only[fF hi,hx,hq,Bool.not_true,cond_false];exact GQ l q hq r (i+1) hd'
theorem LH(l:List aa):zB l l=some true:=by
 unfold zB;rw[decide_eq_true rfl];exact GQ l (fun a b=>decide (a.e=b.e)&&decide (a.Value=b.Value)) (fun x=>by simp) l 0 rfl
theorem sV(l:List ab):zT l l=some true:=by
 unfold zT;rw[decide_eq_true rfl];exact GQ l (fun a b=>decide (a.a=b.a)&&(decide (a.q=b.q)&&decide (a.r=b.r))) (fun x=>by simp) l 0 rfl
theorem vE(l:List ah):z7 l l=some true:=by
 unfold z7;rw[decide_eq_true rfl];exact GQ l (fun a b=>decide (a.j=b.j)&&(decide (a.a=b.a)&&(decide (a.u=b.u)&&decide (a.t=b.t)))) (fun x=>by simp) l 0 rfl
theorem kg(m:ai):A4 m m=some true:=by
 unfold A4;rw[LH,sV,LH,vE];rfl
def mB(c:ae):Int :=
 bif decide (c.k=1)then iv c.g else
 bif decide (c.k=2)then(bif !gp c.g.a then 5 else 0)else
 bif decide (c.k=3)then jJ c.o else
 bif decide (c.k=4)then(bif !gp c.o.e then 5 else 0)else
 bif decide (c.k=5)then jZ c.f else
 bif !gj c.f.j then 5 else 0
def ui(c:ae):ae :=
 bif decide (c.k=1)then⟨c.k,c.g,fU,fu⟩else
 bif decide (c.k=2)then⟨c.k,⟨c.g.a,[],false⟩,fU,fu⟩else
 bif decide (c.k=3)then⟨c.k,fw,c.o,fu⟩else
 bif decide (c.k=4)then⟨c.k,fw,⟨c.o.e,[]⟩,fu⟩else
 bif decide (c.k=5)then⟨c.k,fw,fU,c.f⟩else
 ⟨c.k,fw,fU,⟨c.f.j,[],false,false⟩⟩
def qK(c:ae):Bool:=decide (1<=c.k)&&decide (c.k<=6)
def jN(a b:ab):Bool:=decide (a.a=b.a)&&(decide (a.q=b.q)&&decide (a.r=b.r))
def j4(a b:aa):Bool:=decide (a.e=b.e)&&decide (a.Value=b.Value)
def jK(a b:ah):Bool:=decide (a.j=b.j)&&(decide (a.a=b.a)&&(decide (a.u=b.u)&&decide (a.t=b.t)))
def iM(a b:ae):Bool:=(jN a.g b.g&&(j4 a.o b.o&&jK a.f b.f))
theorem tA{a b:ab}(h:jN a b=true):a=b:=by
 obtain⟨a1,a2,a3⟩:=a;obtain⟨b1,b2,b3⟩:=b;simp only[jN,Bool.and_eq_true,decide_eq_true_eq]at h
 obtain⟨rfl,rfl,rfl⟩:=h;rfl
theorem wE{a b:aa}(h:j4 a b=true):a=b:=by
 obtain⟨a1,a2⟩:=a;obtain⟨b1,b2⟩:=b;simp only[j4,Bool.and_eq_true,decide_eq_true_eq]at h
 obtain⟨rfl,rfl⟩:=h;rfl
theorem wD{a b:ah}(h:jK a b=true):a=b:=by
 obtain⟨a1,a2,a3,a4⟩:=a;obtain⟨b1,b2,b3,b4⟩:=b;simp only[jK,Bool.and_eq_true,decide_eq_true_eq]at h
 obtain⟨rfl,rfl,rfl,rfl⟩:=h;rfl
theorem Ek{a b:ae}(hk:a.k=b.k)(h:iM a b=true):a=b:=by
 obtain⟨a0,a1,a2,a3⟩:=a;obtain⟨b0,b1,b2,b3⟩:=b;simp only[iM,Bool.and_eq_true]at h;obtain⟨h1,h2,h3⟩:=h;simp only at hk;rw[hk,tA h1,wE h2,wD h3]
def fD(c:ae):Int:=bif !qK c then 1 else bif decide (mB c=0)&&!iM c (ui c)then 2 else mB c
structure js(c:ae):Prop where
 fp:Sm c.g.a
 sp:Sm c.o.e
 vp:Sm c.f.a
theorem xI(f:aa)(h:Sm f.e):BN f=some (jJ f):=by
 unfold BN;rw[KE _ h,Nd];simp only[ze];unfold jJ
 cases gp f.e <;> cases pt f.Value <;> rfl
theorem sD:pt []=true:=rfl
theorem tC(p:eA):iv ⟨p,[],false⟩=bif !gp p then 5 else 0:=by
 unfold iv
 cases gp p <;> rfl
theorem wL(p:eA):jJ ⟨p,[]⟩=bif !gp p then 5 else 0:=by
 unfold jJ;simp only[sD]
 cases gp p <;> rfl
theorem qt{n:Int}(h:(decide (1<=n)&&decide (n<=6))=true):n=1∨n=2∨n=3∨n=4∨n=5∨n=6:=by
 simp only[Bool.and_eq_true,decide_eq_true_eq]at h;omega
theorem wj{n:Int}(h:(decide (1<=n)&&decide (n<=6))=false):decide (n=1)=false/\decide (n=2)=false/\decide (n=3)=false/\decide (n=4)=false/\decide (n=5)=false/\decide (n=6)=false:=by
 simp only[Bool.and_eq_false_iff,decide_eq_false_iff_not]at h
 refine⟨?_,?_,?_,?_,?_,?_⟩ <;> (simp only[decide_eq_false_iff_not];omega)
theorem O1(c:ae)(h:js c):FL c=some (fD c):=by
 unfold FL fD qK;simp only[eH];cases hk:decide (1<=c.k)&&decide (c.k<=6)
 .obtain⟨h1,h2,h3,h4,h5,h6⟩:=wj hk
  rw[h1,h2,h3,h4,h5,h6];rfl
 .simp only[Bool.not_true,cond_false]
  rw[Nh _ h.fp,Nh _ (show Sm (ab.mk c.g.a [] false).a from h.fp),xI _ h.sp,xI _ (show Sm (aa.mk c.o.e []).e from h.sp),pj _ h.vp,CW];simp only[ze,tC,wL,decide_true,Bool.true_and];unfold mB ui
  rcases qt hk with e|e|e|e|e|e
  all_goals
   rw[e]
   simp only[show decide ((1:Int)=1)=true from rfl,show decide ((2:Int)=1)=false from rfl,show decide ((2:Int)=2)=true from rfl,show decide ((3:Int)=1)=false from rfl,show decide ((3:Int)=2)=false from rfl,show decide ((3:Int)=3)=true from rfl,show decide ((4:Int)=1)=false from rfl,show decide ((4:Int)=2)=false from rfl,show decide ((4:Int)=3)=false from rfl,show decide ((4:Int)=4)=true from rfl,
    show decide ((5:Int)=1)=false from rfl,show decide ((5:Int)=2)=false from rfl,show decide ((5:Int)=3)=false from rfl,show decide ((5:Int)=4)=false from rfl,show decide ((5:Int)=5)=true from rfl,show decide ((6:Int)=1)=false from rfl,show decide ((6:Int)=2)=false from rfl,show decide ((6:Int)=3)=false from rfl,show decide ((6:Int)=4)=false from rfl,show decide ((6:Int)=5)=false from rfl,show decide ((6:Int)=6)=true from rfl,decide_true,cond_true,cond_false]
   simp only[g6,iM,jN,j4,jK,fw,fU,fu,decide_true,Bool.true_and,Bool.and_true,Bool.and_assoc]
  .rfl
  .rfl
  .rfl
  .rfl
  .rfl
  .cases gj c.f.j <;> rfl
theorem vZ(a:Int)(q:Bool):gP a (bif !q then 2 else 0)=bif decide (a=0)&&!q then 2 else a:=by
 unfold gP
 by_cases h:a=0
 .subst h;cases q <;> rfl
 .rw[decide_eq_false h];rfl
theorem O2(c:ae)(h:js c):FG c=some (fD c):=by
 unfold FG fD qK;simp only[eH];cases hk:decide (1<=c.k)&&decide (c.k<=6)
 .obtain⟨h1,h2,h3,h4,h5,h6⟩:=wj hk
  rw[h1,h2,h3,h4,h5,h6];rfl
 .simp only[Bool.not_true,cond_false]
  rw[PH _ h.fp,PZ _ h.sp,PY _ h.vp,CO,Hg _ h.fp,Hg _ h.sp];simp only[ze,ET,Ci,decide_true,Bool.true_and,vZ];unfold mB ui
  rcases qt hk with e|e|e|e|e|e
  all_goals
   rw[e]
   simp only[show decide ((1:Int)=1)=true from rfl,show decide ((2:Int)=1)=false from rfl,show decide ((2:Int)=2)=true from rfl,show decide ((3:Int)=1)=false from rfl,show decide ((3:Int)=2)=false from rfl,show decide ((3:Int)=3)=true from rfl,show decide ((4:Int)=1)=false from rfl,show decide ((4:Int)=2)=false from rfl,show decide ((4:Int)=3)=false from rfl,show decide ((4:Int)=4)=true from rfl,
    show decide ((5:Int)=1)=false from rfl,show decide ((5:Int)=2)=false from rfl,show decide ((5:Int)=3)=false from rfl,show decide ((5:Int)=4)=false from rfl,show decide ((5:Int)=5)=true from rfl,show decide ((6:Int)=1)=false from rfl,show decide ((6:Int)=2)=false from rfl,show decide ((6:Int)=3)=false from rfl,show decide ((6:Int)=4)=false from rfl,show decide ((6:Int)=5)=false from rfl,show decide ((6:Int)=6)=true from rfl,decide_true,cond_true,cond_false]
   simp only[g6,iM,jN,j4,jK,fw,fU,fu,decide_true,Bool.true_and,Bool.and_true,Bool.and_assoc]
  .rfl
  .rfl
  .rfl
  .rfl
  .rfl
  .rfl
def fb:List ae->Int
 |[]=>0
 |c::l=>bif !decide (fD c=0)then fD c else fb l
theorem Pg:∀(l:List ae),(∀c∈l,js c)->CZ l=some (fb l):=by
 intro l hl;unfold CZ;simp only[eH];refine Bf (fun i l (_:Unit)=>∀c∈l,js c) (fun i l _=>some (fb l)) (fun i s h=>rfl) (fun i c l s nx h hnx=>?_) l 0 () hl;rw[O1 c (h c (mem_cons_self ..)),ze,hnx () (fun d hd=>h d (mem_cons_of_mem _ hd))];simp only[fb,g6]
theorem Kv:∀(l:List ae),(∀c∈l,js c)->FC l=some (fb l):=by
 intro l hl;unfold FC;simp only[eH];refine Bf (fun i l (_:Unit)=>∀c∈l,js c) (fun i l _=>some (fb l)) (fun i s h=>rfl) (fun i c l s nx h hnx=>?_) l 0 () hl;rw[O2 c (h c (mem_cons_self ..)),ze,hnx () (fun d hd=>h d (mem_cons_of_mem _ hd))];simp only[fb,g6]
theorem Mh:∀{l:List ae},fb l=0->∀c∈l,fD c=0
 |[],_,c,hc=>by cases hc
 |d::l,h,c,hc=>by
  simp only[fb]at h;cases hd:decide (fD d=0)
  .rw[hd]at h
   exact absurd h (of_decide_eq_false hd)
  .rw[hd]at h
   rcases mem_cons.1 hc with rfl|hc
   .exact of_decide_eq_true hd
   .exact Mh h c hc
theorem CA{c:ae}(h:fD c=0):qK c=true/\mB c=0/\c=ui c:=by
 unfold fD at h;cases hk:qK c
 .rw[hk]at h;simp at h
 .rw[hk]at h
  simp only[Bool.not_true,cond_false]at h;cases hq:decide (mB c=0)&&!iM c (ui c)
  .rw[hq,cond_false]at h
   rw[h]at hq;simp only[decide_true,Bool.true_and,Bool.not_eq_false']at hq;refine⟨rfl,h,Ek ?_ hq⟩;unfold ui
   cases decide (c.k=1) <;> cases decide (c.k=2) <;> cases decide (c.k=3) <;> cases decide (c.k=4) <;> cases decide (c.k=5) <;> rfl
  .rw[hq]at h;simp at h
def jV(b:Bool):eA:=bif b then [49]else [48]
theorem Cf(b:Bool):GH b=some (jV b):=by cases b <;> rfl
theorem pf(b:Bool):pg b=some (jV b):=by cases b <;> rfl
theorem Bd(b:Bool):(jV b).length=1:=by cases b <;> rfl
def yn(w:eA)(f:ab):eA:=w++32::(f.a++32::pq f.q)
def m8(s:aa):eA:=gR++32::(s.e++32::pq s.Value)
def iY(s:ah):eA:=sr++32::(s.j++32::(s.a++32::(jV s.u++32::jV s.t)))
def uj(c:ae):eA :=
 bif decide (c.k=1)then yn (bif c.g.r then pu else gS) c.g else
 bif decide (c.k=2)then sj++32::c.g.a else
 bif decide (c.k=3)then m8 c.o else
 bif decide (c.k=4)then sf++32::c.o.e else
 bif decide (c.k=5)then iY c.f else
 sa++32::c.f.j
def fG(l:List ae):eA:=l.flatMap fun c=>uj c++[10]
theorem Fv(c:ae)(l:List ae):fG (c::l)=uj c++[10]++fG l:=by simp[fG]
theorem rH(o:eA):Lq o=some ():=rfl
theorem px(s o:eA)(h:(o++s).length<=274877906944):zi s o=some ((s.length:Int),o++s):=by
 unfold zi;rw[rH,ze,zg h]
theorem sy(c:Int)(o:eA)(h:o.length<274877906944):FY c o=some (o++[UInt8.ofNat c.toNat]):=by
 unfold FY;rw[rH,ze,zg (by simp[Go.Vc.strOf];omega)];rfl
theorem j9(o:eA):zA o=some o:=rfl
theorem Q7(s:aa)(h:(m8 s).length<274877906944)(hv:s.Value.length<=17179869184):HQ gR s=some (m8 s++[10]):=by
 unfold HQ;simp only[m8,length_append,length_cons]at h;rw[zg (by simp),zg (by simp;omega),zg (by simp;omega),PE _ hv,ze,zg (by simp;omega),zg (by simp;omega)];simp[m8]
theorem om(w r:eA)(f:ab)(h:(yn (bif f.r then r else w) f).length<274877906944)(hv:f.q.length<=17179869184):HA w r f=some (yn (bif f.r then r else w) f++[10]):=by
 unfold HA;rw[S9];generalize (bif f.r then r else w)=x at h;simp only[yn,length_append,length_cons]at h;rw[zg (by simp;omega),zg (by simp;omega),zg (by simp;omega),PE _ hv,ze,zg (by simp;omega),zg (by simp;omega)];simp[yn]
theorem Q6(s:ah)(h:(iY s).length<274877906944):HP s=some (iY s++[10]):=by
 unfold HP;have h1:=Bd s.u;have h2:=Bd s.t;simp only[iY,length_append,length_cons,length_nil,h1,h2]at h;rw[zg (by simp;omega),zg (by simp;omega),zg (by simp;omega),zg (by simp;omega),Cf,ze,zg (by simp;omega),zg (by simp;omega),Cf,ze,zg (by simp;omega),zg (by simp;omega)];simp[iY]
theorem Ru(s:ah)(h:(iY s).length<274877906944):HI s=some (s.j++32::(s.a++32::(jV s.u++32::jV s.t))):=by
 unfold HI;have h1:=Bd s.u;have h2:=Bd s.t;simp only[iY,length_append,length_cons,length_nil,h1,h2]at h;rw[zg (by simp;omega),zg (by simp;omega),zg (by simp;omega),pf,ze,zg (by simp;omega),zg (by simp;omega),pf,ze,zg (by simp;omega)];simp
structure uE(c:ae):Prop where
 fd:c.g.q.length<=17179869184
 sv:c.o.Value.length<=17179869184
theorem wk{n:Int}(h:(decide (1<=n)&&decide (n<=6))=true)(h1:decide (n=1)=false)(h2:decide (n=2)=false)(h3:decide (n=3)=false)(h4:decide (n=4)=false)(h5:decide (n=5)=false):n=6:=by
 simp only[Bool.and_eq_true,decide_eq_true_eq,decide_eq_false_iff_not]at *;omega
def Dq(t:eA):eA×Int:=bif decide (4194304<(t.length:Int))then([],4)else(t,0)
theorem vz(t:eA):Hc t=some (Dq t):=by unfold Hc Dq;exact g6 _ _ _
theorem my(l:List ae)(hs:∀c∈l,uE c)(ht:(fG l).length<=137438953472) :
  BT l=call (CZ l) fun e=>bif !decide (e=0)then some ([],e)else some (Dq (fG l)):=by
 unfold BT
 congr 1
 funext e
 congr 1
 simp only[eH];refine(Bf (fun i r (o:eA)=>o.length+(fG r).length<=137438953472/\∀c∈r,uE c) (fun i r o=>some (Dq (o++fG r))) (fun i o h=>?_) (fun i c r o nx h hnx=>?_) l 0 [] ⟨by simpa using ht,hs⟩).trans ?_
 .simp only[j9,ze,vz,show fG []=[]from rfl,append_nil]
 .obtain⟨h,hs⟩:=h
  have hc:=hs c (mem_cons_self ..)
  have hr:∀d∈r,uE d:=fun d hd=>hs d (mem_cons_of_mem _ hd)
  rw[Fv]at h|-;unfold uj at h|-;simp only[length_append,length_cons,length_nil]at h;cases h1:decide (c.k=1)
  .rw[h1]at h
   simp only[cond_false]at h|-;cases h2:decide (c.k=2)
   .rw[h2]at h
    simp only[cond_false]at h|-;cases h3:decide (c.k=3)
    .rw[h3]at h
     simp only[cond_false]at h|-;cases h4:decide (c.k=4)
     .rw[h4]at h
      simp only[cond_false]at h|-;cases h5:decide (c.k=5)
      .rw[h5]at h
       simp only[cond_false,length_append,length_cons,length_nil]at h|-;rw[zg (by simp;omega),zg (by simp;omega),px _ _ (by simp;omega),ze,hnx _ ⟨by simp;omega,hr⟩];simp
      .rw[h5]at h
       simp only[cond_true]at h|-;rw[Q6 _ (by omega),ze,px _ _ (by simp;omega),ze,hnx _ ⟨by simp;omega,hr⟩];simp
     .rw[h4]at h
      simp only[cond_true,length_append,length_cons,length_nil]at h|-;rw[zg (by simp;omega),zg (by simp;omega),px _ _ (by simp;omega),ze,hnx _ ⟨by simp;omega,hr⟩];simp
    .rw[h3]at h
     simp only[cond_true]at h|-;rw[Q7 _ (by omega) hc.sv,ze,px _ _ (by simp;omega),ze,hnx _ ⟨by simp;omega,hr⟩];simp
   .rw[h2]at h
    simp only[cond_true,length_append,length_cons,length_nil]at h|-;rw[zg (by simp;omega),zg (by simp;omega),px _ _ (by simp;omega),ze,hnx _ ⟨by simp;omega,hr⟩];simp
  .rw[h1]at h
   simp only[cond_true]at h|-;rw[om gS pu _ (by omega) hc.fd,ze,px _ _ (by simp;omega),ze,hnx _ ⟨by simp;omega,hr⟩];simp
 .rfl
theorem Oe(l:List ae)(hs:∀c∈l,uE c)(hk:∀c∈l,qK c=true)(ht:(fG l).length<=137438953472):BL l=some (fG l):=by
 unfold BL;simp only[eH];refine(Bf (fun i r (o:eA)=>o.length+(fG r).length<=137438953472/\(∀c∈r,uE c)/\∀c∈r,qK c=true) (fun i r o=>some (o++fG r)) (fun i o h=>?_) (fun i c r o nx h hnx=>?_) l 0 [] ⟨by simpa using ht,hs,hk⟩).trans ?_
 .simp only[j9,ze,show fG []=[]from rfl,append_nil]
 .obtain⟨h,hs,hk⟩:=h
  have hc:=hs c (mem_cons_self ..);have hkc:=hk c (mem_cons_self ..)
  have hr:∀d∈r,uE d:=fun d hd=>hs d (mem_cons_of_mem _ hd)
  have hkr:∀d∈r,qK d=true:=fun d hd=>hk d (mem_cons_of_mem _ hd)
  have fg:∀(o' w:eA),o'=o++w->o'.length+1+(fG r).length<=137438953472->(call (FY 10 o') fun r_283=>nx r_283)=some (o++(w++[10]++fG r)):=by
   intro o' w he hl;rw[sy _ _ (by omega),ze,hnx _ ⟨by simp;omega,hr,hkr⟩,he];simp
  rw[Fv]at h|-;unfold uj at h|-;simp only[length_append,length_cons,length_nil]at h;cases h1:decide (c.k=1)
  .rw[h1]at h
   simp only[cond_false]at h|-;cases h2:decide (c.k=2)
   .rw[h2]at h
    simp only[cond_false]at h|-;cases h3:decide (c.k=3)
    .rw[h3]at h
     simp only[cond_false]at h|-;cases h4:decide (c.k=4)
     .rw[h4]at h
      simp only[cond_false]at h|-;cases h5:decide (c.k=5)
      .rw[h5]at h
       have h6:=wk hkc h1 h2 h3 h4 h5;rw[decide_eq_true h6];simp only[cond_false,cond_true,length_append,length_cons,length_nil]at h|-;rw[zg (by simp;omega),px _ _ (by simp;omega),ze];exact fg _ _ (by simp) (by simp;omega)
      .rw[h5]at h
       simp only[cond_true]at h|-;rw[Ru _ (by omega),ze];simp only[iY,length_append,length_cons,length_nil]at h;rw[zg (by simp;omega),px _ _ (by simp;omega),ze];exact fg _ _ (by simp[iY]) (by simp;omega)
     .rw[h4]at h
      simp only[cond_true,length_append,length_cons,length_nil]at h|-;rw[zg (by simp;omega),px _ _ (by simp;omega),ze];exact fg _ _ (by simp) (by simp;omega)
    .rw[h3]at h
     simp only[cond_true,m8,length_append,length_cons,length_nil]at h|-;rw[zg (by simp;omega),zg (by simp;omega),Ka _ hc.sv,ze,zg (by simp;omega),px _ _ (by simp;omega),ze];exact fg _ _ (by simp) (by simp;omega)
   .rw[h2]at h
    simp only[cond_true,length_append,length_cons,length_nil]at h|-;rw[zg (by simp;omega),px _ _ (by simp;omega),ze];exact fg _ _ (by simp) (by simp;omega)
  .rw[h1]at h
   simp only[cond_true]at h|-;cases hr':c.g.r
   .rw[hr']at h
    simp only[cond_false,yn,length_append,length_cons,length_nil]at h|-;rw[zg (by simp;omega),zg (by simp;omega),Ka _ hc.fd,ze,zg (by simp;omega),px _ _ (by simp;omega),ze];exact fg _ _ (by simp) (by simp;omega)
   .rw[hr']at h
    simp only[cond_true,yn,length_append,length_cons,length_nil]at h|-;rw[zg (by simp;omega),zg (by simp;omega),Ka _ hc.fd,ze,zg (by simp;omega),px _ _ (by simp;omega),ze];exact fg _ _ (by simp) (by simp;omega)
 .rfl
def xL(w:eA):Int:=bif decide (w=gS)||decide (w=pu)then 1 else bif decide (w=sj)then 2 else bif decide (w=gR)then 3 else bif decide (w=sf)then 4 else bif decide (w=sr)then 5 else bif decide (w=sa)then 6 else 0
theorem Ao(w:eA):HS w=some (xL w):=by
 unfold HS xL;simp only[eH];cases decide (w=gS)
 .cases decide (w=pu)
  .cases decide (w=sj)
   .cases decide (w=gR)
    .cases decide (w=sf)
     .cases decide (w=sr)
      .cases decide (w=sa) <;> rfl
      .rfl
     .rfl
    .rfl
   .rfl
  .rfl
 .rfl
def oK(l:eA):ae:=⟨xL (hU l).1.A,(hU l).1.C,(hU l).1.D,(hU l).1.B⟩
def s8(l:eA):Bool:=(hU l).2&&!decide (xL (hU l).1.A=0)
def qJ(l:eA):Option ae:=bif s8 l then some (oK l)else none
theorem qj(x:ak)(o:List ae)(h:o.length<274877906944):F4 x o=some (!decide (xL x.A=0),o++[⟨xL x.A,x.C,x.D,x.B⟩]):=by
 unfold F4;rw[Ao,ze,zg (by simp;omega)]
theorem ni(l:eA)(h:fX l=false):fK l=gx l:=by
 unfold fK fX at *
 by_cases hm:(32:UInt8)∈gx l
 .rw[(mM hm).1]at h;cases h
 .rw[uu hm]
theorem vF(l:eA):decide (0<=nY (gx l) 32)=fX l:=by
 unfold fX
 by_cases hm:(32:UInt8)∈gx l
 .rw[(mM hm).1,JQ hm]
  simp only[decide_eq_true_eq];omega
 .rw[uu hm,nX hm];rfl
theorem oH(s:eA)(c:UInt8):HZ s [c]=some (decide (0<=nY s c)):=by
 unfold HZ;rw[GM,ze]
theorem y9{l:eA}(h:gx l≠[]):(eK 32 l).2.2=true:=by
 by_cases hm:(32:UInt8)∈l
 .exact(mM hm).1
 .unfold gx at h
  rw[uu hm]at h;exact absurd rfl h
theorem wm(l:eA)(h:gx l=[]):fK l=[]:=by
 unfold fK
 rw[h];rfl
theorem BV(w:eA):w=gS∨w=pu∨w=sj∨w=gR∨w=sf∨w=sr∨w=sa∨w=ik∨w=ij∨w=jQ ∨
  (decide (w=gS)=false/\decide (w=pu)=false/\decide (w=sj)=false/\decide (w=gR)=false/\decide (w=sf)=false/\decide (w=sr)=false/\decide (w=sa)=false/\decide (w=ik)=false/\decide (w=ij)=false/\decide (w=jQ)=false):=by
 by_cases h1:w=gS
 .exact .inl h1
 by_cases h2:w=pu
 .exact .inr (.inl h2)
 by_cases h3:w=sj
 .exact .inr (.inr (.inl h3))
 by_cases h4:w=gR
 .exact .inr (.inr (.inr (.inl h4)))
 by_cases h5:w=sf
 .exact .inr (.inr (.inr (.inr (.inl h5))))
 by_cases h6:w=sr
 .exact .inr (.inr (.inr (.inr (.inr (.inl h6)))))
 by_cases h7:w=sa
 .exact .inr (.inr (.inr (.inr (.inr (.inr (.inl h7))))))
 by_cases h8:w=ik
 .exact .inr (.inr (.inr (.inr (.inr (.inr (.inr (.inl h8)))))))
 by_cases h9:w=ij
 .exact .inr (.inr (.inr (.inr (.inr (.inr (.inr (.inr (.inl h9))))))))
 by_cases h10:w=jQ
 .exact .inr (.inr (.inr (.inr (.inr (.inr (.inr (.inr (.inr (.inl h10)))))))))
 exact .inr (.inr (.inr (.inr (.inr (.inr (.inr (.inr (.inr (.inr ⟨decide_eq_false h1,decide_eq_false h2,decide_eq_false h3,decide_eq_false h4,decide_eq_false h5,decide_eq_false h6,decide_eq_false h7,decide_eq_false h8,decide_eq_false h9,decide_eq_false h10⟩)))))))))
theorem oJ(l:eA)(hl:l.length<=17179869184):∃c,G5 l=some (c,s8 l)/\(s8 l=true->c=oK l):=by
 have h1:=uS 32 l;unfold G5;rw[jm l 32 (by omega),ze,show(eK 32 l).1=lr l from rfl,show(eK 32 l).2.1=gx l from rfl];rw[show(eK 32 l).2.1=gx l from rfl]at h1;rw[qf _ (by omega),ze,oH,ii,vF,GA _ 32 (by omega)];simp only[ze];rw[lE,sN];rw[show(eK 32 (gx l)).1=fK l from rfl,show(eK 32 (gx l)).2.1=zbW l from rfl,show(eK 32 (gx l)).2.2=fX l from rfl];simp only[eH,ze];unfold s8 oK hU;have hkn:=wn (l:=l);have hrt:=ni l;have hrn:=y9 (l:=l);have hkr:=wm l;generalize (eK 32 l).2.2=one at *;generalize iu (zbW l)=u;generalize hs3:fZ (fK l) (zO 32 (zbW l))=s3;have hs3':fZ (fK l) (zO 32 (zbW l))=s3:=hs3;generalize lr l=w at *;generalize fK l=k at *;generalize fX l=two at *;generalize gx l=rest at *;simp only[hs3];cases hpre:(!one||decide (k=[]))
 .simp only[Bool.or_eq_false_iff,Bool.not_eq_false']at hpre
  obtain⟨rfl,hk⟩:=hpre
  have hrest:decide (rest=[])=false:=by
   simp only[decide_eq_false_iff_not];intro hr;have:=hkr hr
   rw[this]at hk;simp at hk
  rw[hk,hrest];obtain⟨u1,u2⟩:=u;simp only
  rcases BV w with rfl|rfl|rfl|rfl|rfl|rfl|rfl|rfl|rfl|rfl|⟨n1,n2,n3,n4,n5,n6,n7,n8,n9,n10⟩
  .cases two <;> cases decide (u2=0) <;> exact⟨_,rfl,fun _=>rfl⟩
  .cases two <;> cases decide (u2=0) <;> exact⟨_,rfl,fun _=>rfl⟩
  .cases two
   .obtain rfl:=hrt rfl
    exact⟨_,rfl,fun _=>rfl⟩
   .exact⟨_,rfl,fun h=>by cases h⟩
  .cases two <;> cases decide (u2=0) <;> exact⟨_,rfl,fun _=>rfl⟩
  .cases two
   .obtain rfl:=hrt rfl
    exact⟨_,rfl,fun _=>rfl⟩
   .exact⟨_,rfl,fun h=>by cases h⟩
  .cases two
   .exact⟨_,rfl,fun h=>by cases h⟩
   .cases s3 with
    |none=>exact⟨_,rfl,fun h=>by cases h⟩
    |some s=>exact⟨_,rfl,fun _=>rfl⟩
  .cases two
   .obtain rfl:=hrt rfl
    exact⟨_,rfl,fun _=>rfl⟩
   .exact⟨_,rfl,fun h=>by cases h⟩
  .cases two <;> cases decide (u2=0) <;> exact⟨_,rfl,fun h=>by cases h⟩
  .cases two <;> cases decide (u2=0) <;> exact⟨_,rfl,fun h=>by cases h⟩
  .cases two <;> cases decide (u2=0) <;> exact⟨_,rfl,fun h=>by cases h⟩
  .have hkz:xL w=0:=by
    unfold xL
    rw[n1,n2,n3,n4,n5,n6,n7];rfl
   simp only[n1,n2,n3,n4,n5,n6,n7,n8,n9,n10,cond_false,Bool.or_self,Bool.not_true,hkz,decide_true,Bool.and_false,Bool.false_eq_true];exact⟨_,rfl,fun h=>h.elim⟩
 .have hk:decide (k=[])=true:=by
   cases one
   .rw[hkn rfl];rfl
   .simpa using hpre
  rw[hk]
  have hr:(!decide (rest=[])&&!bif !decide (rest=[])then two else false)=false:=by
   cases hd:decide (rest=[])
   .cases two
    .have:=hrt rfl
     rw[<-this,hk]at hd;cases hd
    .rfl
   .rfl
  rw[hr];obtain⟨u1,u2⟩:=u;simp only[cond_true,Bool.not_true,Bool.and_false,Bool.false_and,cond_false]
  rcases BV w with rfl|rfl|rfl|rfl|rfl|rfl|rfl|rfl|rfl|rfl|⟨n1,n2,n3,n4,n5,n6,n7,n8,n9,n10⟩
  all_goals first|exact⟨_,rfl,fun h=>by cases h⟩|skip
  simp only[n1,n2,n3,n4,n5,n6,n7,n8,n9,n10,xL];exact⟨_,rfl,fun h=>by cases h⟩
def mJ:Nat->List ae->List eA->Nat ⊕ List ae
 |_,o,[]=>.inr o
 |n,o,[x]=>bif decide (x=[])then .inr o else .inl n
 |n,o,x::y::r=>match qJ x with
  |none=>.inl n
  |some c=>mJ (n+1) (o++[c]) (y::r)
theorem MB(n:Nat)(o:List ae)(x:eA)(r:List eA)(hr:r≠[]):mJ n o (x::r)=match qJ x with
  |none=>.inl n
  |some c=>mJ (n+1) (o++[c]) r:=by
 cases r with
 |nil=>exact absurd rfl hr
 |cons y r=>simp only[mJ] <;> (cases qJ x <;> rfl)
theorem Kc{l:eA}{c:ae}(h:qJ l=some c):s8 l=true/\c=oK l:=by
 unfold qJ at h;cases ho:s8 l
 .rw[ho]at h;cases h
 .rw[ho]at h;exact⟨rfl,(Option.some.inj h).symm⟩
theorem p7{l:eA}(h:qJ l=none):s8 l=false:=by
 unfold qJ at h;cases ho:s8 l
 .rfl
 .rw[ho]at h;cases h
def B9(p:Nat ⊕ List ae)(z:Option (Int×List ae)):Prop:=match p with
 |.inl j=>∃q,z=some ((j:Int),q)
 |.inr o=>z=some (-1,o)
theorem mc(text:eA)(ht:text.length<=17179869184):B9 (mJ 0 [] (zO 10 text)) (FV text []):=by
 unfold FV;obtain⟨N,hN⟩:∃N,fJ=N:=⟨_,rfl⟩;have hN2:1099511627776<=N:=hN ▸ un;rw[hN];clear hN;simp only[eH]
 have key:∀(k:Nat) (N:Nat) (t:eA) (n:Nat) (o:List ae),t.length<N->t.length<=k->n+t.length<=text.length->o.length<=n ->
   B9 (mJ n o (zO 10 t)) (loopN N (fun s nx_67 k_66 =>
  match s with
  |(text_60,n_61,o1_62) =>
   bif !decide (text_60=[])then
    call (x9 text_60 ([10]:eA)) fun r_68 =>
    call (FJ r_68.1) fun r_69 =>
    callG (!((!r_68.2.2)||(!r_69.2))) (F4 r_69.1 o1_62) (false,o1_62) fun r_70 =>
    bif (((!r_68.2.2)||(!r_69.2))||(!r_70.1))then
     some (n_61,r_70.2)
    else
    nx_67 (r_68.2.1,IntKind.i64.wrap (n_61+1),r_70.2)
   else
   k_66 (text_60,n_61,o1_62)) (t,(n:Int),o) (fun s=>match s with
  |(text_60,n_61,o1_62)=>some (-1,o1_62))):=by
  intro k
  induction k with
  |zero =>
   intro N t n o hN hk hn ho;obtain rfl:t=[]:=length_eq_zero_iff.1 (by omega)
   cases N with
   |zero=>simp at hN
   |succ N =>
    unfold loopN;exact rfl
  |succ k ih =>
   intro N t n o hN hk hn ho
   cases N with
   |zero=>simp at hN
   |succ N =>
    unfold loopN
    cases t with
    |nil=>exact rfl
    |cons c t =>
     generalize ht':c::t=t0 at *
     have hne:t0≠[]:=by rw[<-ht'];simp
     dsimp +instances only;rw[decide_eq_false hne];simp only[Bool.not_false,cond_true];have h1:=uS 10 t0;rw[jm t0 10 (by omega),ze,nk _ (by omega),ze,BA,qj _ _ (by omega),ii];cases hc:(eK 10 t0).2.2
     .simp only[Bool.not_false,Bool.true_or,Bool.not_true,cond_true,Bool.false_eq_true,if_false]
      rw[show mJ n o [t0]=.inl n by simp only[mJ,decide_eq_false hne,cond_false]];exact⟨_,rfl⟩
     .have h3:=h1.2.2 hc
      simp only[Bool.not_true,Bool.false_or,if_true];rw[MB _ _ _ _ (Hk 10 _)];generalize hl0:(eK 10 t0).1=l at *
      cases hs:qJ l with
      |none =>
       have hok:=p7 hs;unfold s8 at hok;cases hr:(hU l).2
       .exact⟨_,rfl⟩
       .rw[hr,Bool.true_and]at hok
        simp only[Bool.not_true,Bool.not_false,cond_true,hok,Bool.or_true];exact⟨_,rfl⟩
      |some p =>
       obtain⟨hok,rfl⟩:=Kc hs;have hok':=hok;unfold s8 at hok';simp only[Bool.and_eq_true]at hok';simp only[hok'.1,Bool.not_true,Bool.not_false,cond_true,hok'.2,Bool.or_self,cond_false];rw[gH n (by omega)];exact ih N _ (n+1) _ (by omega) (by omega) (by omega) (by simp;omega)
 exact key text.length N text 0 [] (by omega) (Nat.le_refl _) (by omega) (Nat.le_refl _)
theorem sP{k:eA}{p:List eA}{s:ah}(h:fZ k p=some s):∃x∈p,s.a=x:=vm h
theorem xf(l:eA)(hl:l.length<=17179869184):js (oK l):=by
 have hk:=kH l
 have hv:∀x∈zO 32 (zbW l),x.length<=17179869184:=fun x hx=>by
  have:=HO hx;omega
 have key:(hU l).1.C.a.length<=17179869184/\(hU l).1.D.e.length<=17179869184/\(hU l).1.B.a.length<=17179869184:=by
  unfold hU;dsimp only;generalize hs3:fZ (fK l) (zO 32 (zbW l))=s3
  have hsp:∀s,s3=some s->s.a.length<=17179869184:=fun s e=>by
   rw[e]at hs3;obtain⟨x,hx,e⟩:=sP hs3
   rw[e];exact hv x hx
  generalize lr l=w
  have hkk:(fK l).length<=17179869184:=by omega
  generalize fK l=k at *;generalize fX l=two;generalize iu (zbW l)=u
  have h0:([]:eA).length<=17179869184:=by simp
  clear hs3;cases (!(eK 32 l).2.2||decide (k=[]))
  rotate_left
  .exact⟨h0,h0,h0⟩
  simp only[cond_false]
  cases decide (w=ik)||decide (w=gR)
  rotate_left
  .exact⟨h0,hkk,h0⟩
  simp only[cond_false]
  cases ((decide (w=ij)||decide (w=jQ))||decide (w=gS))||decide (w=pu)
  rotate_left
  .exact⟨hkk,h0,h0⟩
  simp only[cond_false];cases decide (w=sr)
  rotate_left
  .simp only[cond_true]
   cases two
   .exact⟨h0,h0,h0⟩
   .cases s3 with
    |none=>exact⟨h0,h0,h0⟩
    |some s=>exact⟨h0,h0,hsp s rfl⟩
  simp only[cond_false];cases decide (w=sj)
  rotate_left
  .exact⟨hkk,h0,h0⟩
  simp only[cond_false];cases decide (w=sf)
  rotate_left
  .exact⟨h0,hkk,h0⟩
  simp only[cond_false];cases decide (w=sa)
  rotate_left
  .exact⟨h0,h0,h0⟩
  exact⟨h0,h0,h0⟩
 exact⟨key.1,key.2.1,key.2.2⟩
theorem nt:∀(L:List eA) (n:Nat) (o o':List ae),(∀x∈L,x.length<=17179869184)->(∀c∈o,js c)->mJ n o L=.inr o'->∀c∈o',js c
 |[],n,o,o',hL,ho,h=>by
  simp only[mJ]at h;cases h;exact ho
 |[x],n,o,o',hL,ho,h=>by
  simp only[mJ]at h;cases hx:decide (x=[])
  .rw[hx]at h;cases h
  .rw[hx]at h
   cases h;exact ho
 |x::y::r,n,o,o',hL,ho,h=>by
  rw[MB _ _ _ _ (by simp)]at h
  cases hs:qJ x with
  |none=>rw[hs]at h;cases h
  |some c =>
   rw[hs]at h;obtain⟨hok,rfl⟩:=Kc hs;refine nt (y::r) (n+1) _ o' (fun z hz=>hL z (mem_cons_of_mem _ hz)) (fun d hd=>?_) h
   rcases mem_append.1 hd with hd|hd
   .exact ho d hd
   .rw[mem_singleton.1 hd]
    exact xf x (hL x (mem_cons_self ..))
def ja(text:eA):List ae×Int×Int:=match mJ 0 [] (zO 10 text)with
 |.inl j=>([],(j:Int),8)
 |.inr o=>bif !decide (fb o=0)then([],0,fb o)else(o,0,0)
theorem vP(text:eA)(ht:text.length<=4194304){o:List ae}(h:mJ 0 [] (zO 10 text)=.inr o):∀c∈o,js c :=
 nt _ 0 [] o (fun x hx=>by have:=HO hx;omega) (fun c hc=>by cases hc) h
theorem RF(text:eA)(ht:text.length<=4194304):HU text=some (ja text):=by
 unfold HU ja;rw[decide_eq_false (by omega),cond_false];have h:=mc text (by omega)
 cases hp:mJ 0 [] (zO 10 text)with
 |inl j =>
  rw[hp]at h;obtain⟨q,h⟩:=h;rw[h,ze];simp only;rw[decide_eq_true (by omega)];rfl
 |inr o =>
  rw[hp]at h;rw[show FV text []=some (-1,o)from h,ze];simp only;rw[show decide ((0:Int)<=-1)=false from rfl,cond_false,Pg o (vP text ht hp),ze]
  cases decide (fb o=0) <;> rfl
theorem y6(l:List ae):Ia l l=some true:=by
 unfold Ia;rw[decide_eq_true rfl];exact GQ l (fun c_20 c_21=>(decide (c_20.k=c_21.k))&&((decide (c_20.g.a=c_21.g.a))&&((decide (c_20.g.q=c_21.g.q))&&((decide (c_20.g.r=c_21.g.r))&&((decide (c_20.o.e=c_21.o.e))&&((decide (c_20.o.Value=c_21.o.Value))&&((decide (c_20.f.j=c_21.f.j))&&((decide (c_20.f.a=c_21.f.a))&&((decide (c_20.f.u=c_21.f.u))&&(decide (c_20.f.t=c_21.f.t))))))))))) (fun x=>by simp) l 0 rfl
theorem Ik(n:Nat)(h:n<18446744073709551616):IntKind.u64.wrap (n:Int)=n:=by
 unfold IntKind.wrap;simp only[IntKind.bits,IntKind.signed,Bool.false_and,Bool.false_eq_true,if_false];omega
theorem mN(n:Int):∃m:Nat,IntKind.u64.wrap n=m/\m<18446744073709551616:=by
 refine⟨(n % 18446744073709551616).toNat,?_,by omega⟩;unfold IntKind.wrap;simp only[IntKind.bits,IntKind.signed,Bool.false_and,Bool.false_eq_true,if_false];omega
theorem vA(n c:Nat)(k:IntKind)(hc:c<=k.bits):Int.fdiv (n:Int) (2^(fz k (c:Int)))=((n / 2^c:Nat):Int):=by
 have:fz k (c:Int)=c:=by unfold fz;simp;omega
 rw[this,Int.fdiv_eq_ediv_of_nonneg _ (Int.le_of_lt (Int.pow_pos (by decide)))]
 rw[Int.natCast_ediv,Int.natCast_pow];rfl
theorem oZ(n c m:Nat)(h:n<18446744073709551616)(hm:m=2^c-1)(hc:c<64):fj .and .u64 (n:Int) (m:Int)=((n % 2^c:Nat):Int):=by
 subst hm;have h1:2^c<=2^63:=Nat.pow_le_pow_right (by decide) (by omega)
 show IntKind.u64.wrap (((BitVec.ofInt 64 (n:Int) &&& BitVec.ofInt 64 ((2^c-1:Nat):Int)).toNat:Nat):Int)=_
 rw[BitVec.toNat_and,BitVec.toNat_ofInt,BitVec.toNat_ofInt]
 have e1:((n:Int) % ((2^64:Nat):Int)).toNat=n:=by omega
 have e2:(((2^c-1:Nat):Int) % ((2^64:Nat):Int)).toNat=2^c-1:=by omega
 rw[e1,e2,Nat.and_two_pow_sub_one_eq_mod];exact Ik _ (Nat.lt_of_le_of_lt (Nat.mod_le _ _) h)
theorem Mj{Z S α:Type}(g:S->α->S)(k:S->Option Z):∀(l:List α) (i:Nat) (s:S),forL l i (fun _ c s nx _=>nx (g s c)) s k=k (l.foldl g s)
 |[],_,_=>rfl
 |x::l,i,s=>by
  unfold forL;exact Mj g k l (i+1) (g s x)
theorem QH{α:Type}(n i:Nat)(f:Nat->α)(v:α):((List.range n).map f).set i v=(List.range n).map (fun j=>if j=i then v else f j):=by
 apply ext_getElem
 .simp
 .intro j h1 h2
  simp only[getElem_set,getElem_map,getElem_range]
  by_cases h:i=j
  .subst h;simp
  .rw[if_neg h,if_neg (Ne.symm h)]
theorem sR{α:Type}(l:List α)(f:α->UInt8):Go.Vc.strOf (l.map fun x=>((f x).toNat:Int))=l.map f:=by
 unfold Go.Vc.strOf;simp
def HXs:eA:=[48,49,50,51,52,53,54,55,56,57,97,98,99,100,101,102]
def D36:eA:=[48,49,50,51,52,53,54,55,56,57,97,98,99,100,101,102,103,104,105,106,107,108,109,110,111,112,113,114,115,116,117,118,119,120,121,122]
def dg(n:Nat):UInt8:=HXs.getD n 0
def hx:Nat->Nat->eA
 |0,_=>[]
 |k+1,n=>hx k (n / 16)++[dg (n % 16)]
def kL(h:Int)(c:UInt8):Int:=IntKind.u64.wrap ((fj .xor .u64 h (IntKind.u64.wrap (c.toNat:Int)))*1099511628211)
def B5(s:eA):Int:=s.foldl kL 14695981039346656037
def gy(s:eA):eA:=hx 16 (B5 s).toNat
theorem kK(s:eA):∃n:Nat,B5 s=n/\n<18446744073709551616:=by
 have:∀(s:eA) (h:Int),(∃n:Nat,h=n/\n<18446744073709551616)->∃n:Nat,s.foldl kL h=n/\n<18446744073709551616:=by
  intro s
  induction s with
  |nil=>exact fun h hh=>hh
  |cons c s ih=>exact fun h _=>ih _ (mN _)
 exact this s _ ⟨14695981039346656037,rfl,by decide⟩
theorem kJ:∀(k n:Nat),(hx k n).length=k
 |0,_=>rfl
 |k+1,n=>by simp[hx,kJ k]
theorem Fm(s:eA):(gy s).length=16:=kJ _ _
theorem El:∀m:Fin 16,D36.getD m.val 0=dg m.val:=by decide
theorem Ef{Z:Type}(m:Nat)(h:m<16)(k:Int->Option Z):fN HXs (m:Int) k=k ((dg m).toNat:Int):=by
 rw[so (by simpa [HXs]using h)];simp only[dg,getD_eq_getElem?_getD,getElem?_eq_getElem (show m<HXs.length by simpa [HXs]using h),Option.getD_some]
theorem rv{Z:Type}(m:Nat)(h:m<16)(k:Int->Option Z):fN D36 (m:Int) k=k ((dg m).toNat:Int):=by
 have hl:m<D36.length:=by simp[D36];omega
 rw[so hl,<-El ⟨m,h⟩];simp only[getD_eq_getElem?_getD,getElem?_eq_getElem hl,Option.getD_some]
theorem N1(n:Nat):(List.range 16).map (fun j=>dg (n / 2^(60-4*j) % 16))=hx 16 n:=by
 simp only[hx,List.range,List.range.loop,map_cons,map_nil,Nat.div_div_eq_div_mul,nil_append,cons_append];simp
theorem PF(s:eA):Bq s=some (gy s):=by
 obtain⟨n,hn,hlt⟩:=kK s;unfold Bq;obtain⟨N,hN⟩:∃N,fJ=N:=⟨_,rfl⟩;have hF:1099511627776<=N:=hN ▸ un;rw[hN]
 show forL s 0 (fun _ c h nx _=>nx (kL h c)) 14695981039346656037 _=_
 rw[Mj]
 show jp _ (fun k_27=>loopN N _ _ _)=_
 rw[show s.foldl kL 14695981039346656037=(n:Int)from hn];unfold jp
 let arr:=fun i:Nat=>(List.range 16).map fun j=>if j<i then((dg (n / 2^(60-4*j) % 16)).toNat:Int)else 0
 refine(Bj (fun s=>∃i:Nat,s.1=(i:Int)/\i<=16/\s.2=arr i) (fun s=>16-s.1.toNat) (fun _=>some (gy s)) ?_ N _ ⟨0,rfl,by omega,?_⟩ (by show 16-Int.toNat 0<N;simp;omega)).trans rfl
 .rintro⟨t,o⟩ nx ⟨i,h1,hi,h2⟩ hnx
  obtain rfl:t=i:=h1;obtain rfl:o=arr i:=h2;simp only[length_replicate]
  by_cases h:i<16
  .rw[rK (decide_eq_true (by omega))]
   have e1:IntKind.i64.wrap (60-IntKind.i64.wrap (4*(i:Int)))=((60-4*i:Nat):Int):=by
    rw[gI (n:=4*(i:Int)) (by omega) (by omega),gI (by omega) (by omega)];omega
   rw[e1,zg (by omega),vA _ _ _ (by simp only[IntKind.bits];omega)];rw[show(15:Int)=((15:Nat):Int)from rfl,oZ _ 4 15 (Nat.lt_of_le_of_lt (Nat.div_le_self _ _) hlt) (by decide) (by decide)]
   show fN HXs _ _=_
   rw[Ef _ (Nat.mod_lt _ (by decide)),zg (by simp[arr];omega),gH i (by omega)];refine hnx _ ⟨i+1,rfl,by omega,?_⟩ ?_
   .show List.set (arr i) (Int.toNat (i:Int)) _=_
    rw[Int.toNat_natCast]
    show((List.range 16).map _).set i _=(List.range 16).map _
    rw[QH];apply map_congr_left;intro j _
    by_cases hj:j=i
    .subst hj;rw[if_pos rfl,if_pos (by omega)]
    .rw[if_neg hj]
     by_cases hj':j<i
     .rw[if_pos hj',if_pos (by omega)]
     .rw[if_neg hj',if_neg (by omega)]
   .show 16-Int.toNat ((i+1:Nat):Int)<16-Int.toNat (i:Int)
    rw[Int.toNat_natCast,Int.toNat_natCast];omega
  .rw[ug (decide_eq_false (by omega))]
   obtain rfl:i=16:=by omega
   show some (Go.Vc.strOf (arr 16))=_
   have:arr 16=(List.range 16).map fun j=>((dg (n / 2^(60-4*j) % 16)).toNat:Int):=by
    apply map_congr_left;intro j hj;rw[if_pos (mem_range.1 hj)]
   rw[this,sR,N1];unfold gy
   rw[hn];rfl
 .show List.replicate 16 (0:Int)=_
  apply ext_getElem
  .simp[arr]
  .intro j h1 h2
   rw[getElem_replicate];simp only[arr,getElem_map,getElem_range];rfl
def fm:Nat->Nat->eA
 |0,n=>[dg n]
 |k+1,n=>if n<16 then [dg n]else fm k (n / 16)++[dg (n % 16)]
theorem ry:∀k:Nat,hx k 0=List.replicate k 48
 |0=>rfl
 |k+1=>by
  show hx k (0 / 16)++[dg (0 % 16)]=_
  rw[Nat.zero_div,ry k,replicate_succ'];rfl
theorem qx:∀k n:Nat,1<=(fm k n).length/\(fm k n).length<=k+1
 |0,n=>by simp[fm]
 |k+1,n=>by
  have:=qx k (n / 16);simp only[fm]
  split <;> simp <;> omega
theorem wy:∀k n:Nat,n<16^(k+1)->List.replicate (k+1-(fm k n).length) 48++fm k n=hx (k+1) n
 |0,n,h=>by
  have:n % 16=n:=Nat.mod_eq_of_lt (by simpa using h);simp[fm,hx,this]
 |k+1,n,h=>by
  have hl:=qx k (n / 16);simp only[fm];split
  .rename_i h16
   have e1:n / 16=0:=Nat.div_eq_of_lt h16;have e2:n % 16=n:=Nat.mod_eq_of_lt h16
   show _=hx (k+1) (n / 16)++[dg (n % 16)]
   rw[e1,e2,ry];rfl
  .have ih:=wy k (n / 16) (by rw[Nat.pow_succ]at h;omega)
   show _=hx (k+1) (n / 16)++[dg (n % 16)]
   rw[<-ih,length_append,append_assoc]
   congr 2
   simp
theorem NG:La (IntKind.u64.wrap 16)=some 4:=by decide +kernel
theorem IW:Lj 16=some true:=by decide +kernel
theorem m7(l:List Int)(i:Nat)(v:Int)(h:i<l.length):(l.set i v).drop i=v::l.drop (i+1):=by
 rw[drop_set];simp only[Nat.lt_irrefl,if_false,Nat.sub_self];rw[drop_eq_getElem_cons h];rfl
theorem O7(v:UInt8)(l:List Int):Go.Vc.strOf ((v.toNat:Int)::l)=v::Go.Vc.strOf l:=by simp[Go.Vc.strOf]
theorem l9(n:Nat)(h:n<18446744073709551616):Ij [] (n:Int) 16 false false=some ([],fm 15 n):=by
 unfold Ij;obtain⟨N,hN⟩:∃N,fJ=N:=⟨_,rfl⟩;have hF:1099511627776<=N:=hN ▸ un;rw[hN];simp only[IW,NG,ze,jp,cond_true,cond_false,show decide ((16:Int)<2)=false from rfl,show decide ((16:Int)=10)=false from rfl,show decide ((36:Int)<16)=false from rfl,Bool.or_self]
 have hw:IntKind.u64.wrap 16=16:=by decide
 have hw4:IntKind.u64.wrap 4=((4:Nat):Int):=by decide
 have hw15:IntKind.u64.wrap (16-1)=((15:Nat):Int):=by decide
 rw[hw,hw4,hw15];refine(Bj (fun s=>∃m j:Nat,s.1=(m:Int)/\s.2.1=(j:Int)/\j<=65/\50<=j/\m<16^(j-49)/\s.2.2.length=65/\fm 15 n=fm (j-50) m++Go.Vc.strOf (s.2.2.drop j)) (fun s=>s.2.1.toNat) (fun _=>some ([],fm 15 n)) ?_ N _ ⟨n,65,rfl,rfl,by omega,by omega,by omega,by simp,by simp[Go.Vc.strOf]⟩ (by show Int.toNat 65<N;simp;omega));rintro⟨u,i,o⟩ nx ⟨m,j,h1,h2,hj,hj',hm,hl,hf⟩ hnx;obtain rfl:u=m:=h1;obtain rfl:i=j:=h2;simp only;simp only at hl hf;have hmlt:m<18446744073709551616:=Nat.lt_of_lt_of_le hm (Nat.le_trans (Nat.pow_le_pow_right (by decide) (show j-49<=16 by omega)) (by decide));have e1:IntKind.i64.wrap ((j:Int)-1)=((j-1:Nat):Int):=iV j (by omega) (by omega);rw[e1]
 by_cases hc:16<=m
 .rw[rK (decide_eq_true (by omega)),oZ m 4 15 hmlt (by decide) (by decide)]
  show fN D36 _ _=_
  rw[rv _ (Nat.mod_lt _ (by decide)),zg (by omega),zg (by omega),vA m 4 .u64 (by decide)]
  have h50:50<j:=by
   rcases Nat.lt_or_ge 50 j with h'|h'
   .exact h'
   .exfalso
    obtain rfl:j=50:=by omega
    simp at hm;omega
  refine hnx _ ⟨m / 16,j-1,rfl,rfl,by omega,by omega,?_,by simpa using hl,?_⟩ (by show Int.toNat _<Int.toNat _;rw[Int.toNat_natCast,Int.toNat_natCast];omega)
  .have:16^(j-49)=16^(j-1-49)*16:=by rw[<-Nat.pow_succ];congr 1;omega
   rw[this]at hm;omega
  .rw[hf,Int.toNat_natCast]
   rw[show j-50=(j-1-50)+1 by omega];simp only[fm];rw[if_neg (by omega),m7 _ _ _ (by omega),O7,show j-1+1=j by omega,append_assoc];rfl
 .rw[ug (decide_eq_false (by omega))]
  show fN D36 _ _=_
  rw[rv m (by omega),zg (by omega)];rw[zg (by simp only[length_set];omega)];rw[Int.toNat_natCast,m7 _ _ _ (by omega),show j-1+1=j by omega,take_of_length_le (by simp;omega),O7,hf]
  have:fm (j-50) m=[dg m]:=by
   cases e:j-50 with
   |zero=>rfl
   |succ k=>simp only[fm];rw[if_pos (by omega)]
  rw[this];rfl
theorem mx(n:Nat)(h:n<18446744073709551616):HT (n:Int) 16=some (fm 15 n):=by
 unfold HT Lp
 rw[l9 n h];rfl
theorem Ab:∀c:Fin 17,HM [48] (c.val:Int)=some (List.replicate c.val 48):=by
 intro c;obtain⟨c,hc⟩:=c;simp only;unfold HM;obtain⟨N,hN⟩:∃N,fJ=N:=⟨_,rfl⟩;rw[hN];clear hN
 by_cases h0:c=0
 .subst h0;rfl
 by_cases h1:c=1
 .subst h1;rfl
 rw[ug (decide_eq_false (by omega)),ug (decide_eq_false (by omega))]
 have hm:∀c:Fin 17,KB (IntKind.u64.wrap (([48]:eA).length:Int)) (IntKind.u64.wrap (c.val:Int))=some (0,(c.val:Int)):=by decide +kernel
 simp only[eH];rw[ug (decide_eq_false (by omega)),hm ⟨c,hc⟩];simp only[ze];rw[show decide ((0:Int)<0)=false from rfl,ug (by simp;omega)];rw[ug (by simp)]
 show fN [48] ((0:Nat):Int) _=_
 rw[so (by simp)];simp only[getElem_cons_zero];rw[show decide (((48:UInt8).toNat:Int)=32)=false from rfl,show decide (((48:UInt8).toNat:Int)=45)=false from rfl,show decide (((48:UInt8).toNat:Int)=48)=true from rfl,cond_false,cond_false,cond_true,cond_true]
 have hp:∀(g:Bool) (a b:eA) (k:Bool->Option eA),z8 a b=some false->callG g (z8 a b) false k=k false:=by
  intro g a b k h;rw[h,ii]
  cases g <;> rfl
 have ew:IntKind.i64.wrap (c:Int)=c:=mO c (by omega);rw[hp _ _ _ _ (by decide +kernel),Bool.and_false,cond_false,hp _ _ _ _ (by decide +kernel),Bool.and_false,cond_false,ew];rw[show z8 _ [48]=some true from by decide +kernel,ii,decide_eq_true (by omega:(c:Int)<=64)];simp only[Bool.and_true,cond_true]
 have hk:∀c:Fin 17,List.take (Int.toNat (c.val:Int)) ([48,48,48,48,48,48,48,48,48,48,48,48,48,48,48,48,48,48,48,48,48,48,48,48,48,48,48,48,48,48,48,48,48,48,48,48,48,48,48,48,48,48,48,48,48,48,48,48,48,48,48,48,48,48,48,48,48,48,48,48,48,48,48,48]:eA)=List.replicate c.val 48:=by decide
 rw[zg (by simp;omega),hk ⟨c,hc⟩]
theorem MI(s:eA):Cy s=some (gy s):=by
 obtain⟨n,hn,hlt⟩:=kK s;unfold Cy
 show jp _ (fun k=>forL s 0 (fun _ c h nx _=>nx (kL h c)) 14695981039346656037 _)=_
 simp only[eH];rw[Mj];rw[show s.foldl kL 14695981039346656037=(n:Int)from hn,mx n hlt];have hl:=qx 15 n;simp only[ze];rw[show IntKind.i64.wrap (16-((fm 15 n).length:Int))=((16-(fm 15 n).length:Nat):Int)by rw[gI (by omega) (by omega)];omega];have:=Ab ⟨16-(fm 15 n).length,by omega⟩;simp only at this;rw[this,ze,zg (by simp;omega),wy 15 n (by omega)];unfold gy
 rw[hn];rfl
def hN(n:Nat)(c:UInt8):Nat:=((n ^^^ c.toNat)*1099511628211) % 18446744073709551616
def hF(n:Nat)(s:eA):Nat:=s.foldl hN n
def atoiN(s:eA):Int:=(Go.Lib.atoi s).getD 0
theorem oS{s:eA}(h:s.length<=18):hP s=atoiN s:=by
 unfold hP atoiN;rw[Go.Lib.atoiAll_short s h]
 cases Go.Lib.atoi s <;> rfl
theorem oU{s:eA}(h:s.length<=18):atoiE s=(Go.Lib.atoi s).isSome:=by
 unfold atoiE;rw[Go.Lib.atoiAll_short s h]
 cases Go.Lib.atoi s <;> rfl
def val(acc:Nat)(l:eA):Nat:=l.foldl (fun n c=>n*10+(c.toNat-48)) acc
theorem JL{c:UInt8}(h:jD c=true):48<=c.toNat/\c.toNat<=57:=by
 unfold jD at h;simp only[Bool.and_eq_true,decide_eq_true_eq]at h;omega
theorem MP:∀(l:eA) (acc:Nat),l.all jD=true->Go.Lib.decFrom acc l=some (val acc l)
 |[],_,_=>rfl
 |c::l,acc,h=>by
  simp only[all_cons,Bool.and_eq_true]at h;have:=JL h.1;unfold Go.Lib.decFrom Go.Lib.digitVal;rw[if_pos this];exact MP l _ h.2
theorem tS{w:eA}(h:w.all jD=true)(hne:w≠[]):atoiN w=(val 0 w:Nat):=by
 cases w with
 |nil=>exact absurd rfl hne
 |cons c l =>
  have hc:jD c=true:=by simp only[all_cons,Bool.and_eq_true]at h;exact h.1
  have hr:=JL hc
  have h1:(c == 45)=false:=by
   rw[beq_eq_false_iff_ne];rintro rfl;revert hr;decide
  have h2:(c == 43)=false:=by
   rw[beq_eq_false_iff_ne];rintro rfl;revert hr;decide
  unfold atoiN Go.Lib.atoi Go.Lib.decNat;simp only[h1,h2,Bool.false_eq_true,if_false,isEmpty_cons,MP _ 0 h,Option.map_some,Option.getD_some]
theorem Lu(d:Nat)(h:d<10):(UInt8.ofNat (48+d)).toNat=48+d:=by
 rw[UInt8.toNat_ofNat'];omega
theorem Ca(d:Nat)(h:d<10):jD (UInt8.ofNat (48+d))=true:=by
 unfold jD
 rw[Lu d h,Bool.and_eq_true,decide_eq_true_eq,decide_eq_true_eq];omega
theorem mS(l:eA)(c:UInt8):val 0 (l++[c])=val 0 l*10+(c.toNat-48):=by unfold val;rw[foldl_append];rfl
structure DD(u:Nat)(l:eA):Prop where
 dig:l.all jD=true
 vl:val 0 l=u
 ne:l≠[]
 hd:u≠0->(l.getD 0 0).toNat≠48
 len:∀k,u<10^(k+1)->l.length<=k+1
theorem dd(u:Nat):DD u (Go.Lib.decDigits u):=by
 induction u using Nat.strongRecOn with
 |ind u ih =>
  unfold Go.Lib.decDigits
  by_cases h:u<10
  .rw[dif_pos h]
   refine⟨by rw[all_cons,Ca u h];rfl,by simp only[val,foldl_cons,foldl_nil];rw[Lu u h];omega,by simp,fun h0=>?_,fun k _=>by simp⟩
   show(UInt8.ofNat (48+u)).toNat≠48
   rw[Lu u h];omega
  .rw[dif_neg h]
   have q:=ih (u / 10) (by omega);have hm:u % 10<10:=Nat.mod_lt _ (by decide);refine⟨by rw[all_append,q.dig,all_cons,Ca _ hm];rfl,by rw[mS,q.vl,Lu _ hm];omega,by simp,fun _=>?_,fun k hk=>?_⟩
   .have hl:=length_pos_iff.2 q.ne
    rw[getD_eq_getElem?_getD,getElem?_append_left hl,<-getD_eq_getElem?_getD];exact q.hd (by omega)
   .rw[length_append,length_singleton]
    cases k with
    |zero=>simp at hk;omega
    |succ k =>
     rw[Nat.pow_succ]at hk;have:=q.len k (by omega);omega
theorem JP{n:Int}(h:0<=n):Go.Lib.itoa n=Go.Lib.decDigits n.toNat:=by
 obtain⟨u,rfl⟩:=Int.eq_ofNat_of_zero_le h
 rw[Go.Lib.itoa_nonneg];simp
def gW(n:Nat)(s:eA):Bool:=!((decide (s=[])||decide ((n:Int)<(s.length:Int)))||(decide (((s.getD 0 0).toNat:Int)=48)&&!decide (s=[48])))&&s.all jD
theorem OX{s:eA}(h:s.all jD=true)(hne:s≠[])(hl:s.length<=18):hP s=(val 0 s:Nat)/\atoiE s=true:=by
 refine⟨by rw[oS hl,tS h hne],?_⟩;rw[oU hl]
 cases s with
 |nil=>exact absurd rfl hne
 |cons c l =>
  have hc:jD c=true:=by simp only[all_cons,Bool.and_eq_true]at h;exact h.1
  have hr:=JL hc
  have h1:(c == 45)=false:=by
   rw[beq_eq_false_iff_ne];rintro rfl;revert hr;decide
  have h2:(c == 43)=false:=by
   rw[beq_eq_false_iff_ne];rintro rfl;revert hr;decide
  unfold Go.Lib.atoi Go.Lib.decNat;simp only[h1,h2,Bool.false_eq_true,if_false,isEmpty_cons,MP _ 0 h,Option.map_some,Option.isSome_some]
theorem Ai{u n:Nat}(hu:u<10^(n+1)):gW (n+1) (Go.Lib.decDigits u)=true:=by
 have q:=dd u;have hl:=q.len n hu;unfold gW;rw[q.dig,decide_eq_false q.ne,decide_eq_false (by omega),Bool.and_true,Bool.false_or,Bool.false_or]
 by_cases h0:u=0
 .subst h0
  rw[show Go.Lib.decDigits 0=[48]by unfold Go.Lib.decDigits;rw[dif_pos (by decide)];rfl];decide
 .rw[decide_eq_false (fun e=>q.hd h0 (by omega))];rfl
theorem KQ(s:eA):HF s=some (bif gW 9 s then(((val 0 s:Nat):Int),true)else(0,false)):=by
 unfold HF gW
 by_cases hA:s=[]
 .subst hA;rfl
 have hpos:=length_pos_iff.2 hA;rw[decide_eq_false hA,zg (fun _=>by omega)]
 by_cases hB:(9:Int)<(s.length:Int)
 .rw[decide_eq_true hB,show decide (((9:Nat):Int)<(s.length:Int))=true from decide_eq_true hB];rfl
 rw[decide_eq_false hB,show decide (((9:Nat):Int)<(s.length:Int))=false from decide_eq_false hB];cases hC:(decide (((s.getD 0 0).toNat:Int)=48)&&!decide (s=([48]:eA)))
 .simp only[Bool.or_self,Bool.or_false,cond_false,Bool.not_false,Bool.true_and,eH]
  rw[sq jD (fun i x nx k=>by
   unfold jD
   by_cases h1:((x.toNat:Int)<48)
   .rw[decide_eq_true h1,show decide (48<=(x.toNat:Int))=false from decide_eq_false (by omega)];rfl
   .by_cases h2:(57<(x.toNat:Int))
    .rw[decide_eq_true h2,show decide ((x.toNat:Int)<=57)=false from decide_eq_false (by omega),Bool.or_true,Bool.and_false];rfl
    .rw[decide_eq_false h1,decide_eq_false h2,show decide (48<=(x.toNat:Int))=true from decide_eq_true (by omega),show decide ((x.toNat:Int)<=57)=true from decide_eq_true (by omega)];rfl)]
  cases hD:s.all jD
  .rfl
  .obtain⟨e1,e2⟩:=OX hD hA (by omega)
   unfold HG;rw[cond_true,cond_true,ze,e1,e2]
 .rfl
theorem rt(sep a:eA)(l:List eA)(hsep:sep.length<=1)(hl:l.length<=8000000)(hs:a.length+(l.map List.length).sum<=270000000000):yN (a::l) sep=some (a++(l.map (sep++·)).flatten):=by
 unfold yN;simp only[eH];rw[ug (decide_eq_false (by simp;omega))]
 rcases l with _|⟨b,l⟩
 .rw[rK (decide_eq_true (show(([a]:List eA).length:Int)=1 from rfl))]
  show eV [a] ((0:Nat):Int) _=_
  rw[fF (by simp)];simp
 rw[ug (decide_eq_false (by simp;omega))];simp only[length_cons]at hl
 have sumloop:∀(q:List eA) (i:Nat) (n:Nat) (k:Int->Option eA),n+(q.map List.length).sum<=274877906000 ->
   forL q i (fun i_62 s_64 n_57 nx_61 k_60=>bif decide ((IntKind.i64.wrap (9223372036854775807-n_57))<(s_64.length:Int))then none else nx_61 (IntKind.i64.wrap (n_57+(s_64.length:Int)))) (n:Int) k=k ((n+(q.map List.length).sum:Nat):Int):=by
  intro q
  induction q with
  |nil=>intro i n k h;simp[forL]
  |cons x q ih =>
   intro i n k h;simp only[map_cons,sum_cons]at h;unfold forL;dsimp only;rw[gI (n:=9223372036854775807-(n:Int)) (by omega) (by omega),ug (decide_eq_false (by omega)),show(n:Int)+(x.length:Int)=((n+x.length:Nat):Int)by omega,mO _ (by omega)];rw[ih (i+1) (n+x.length) k (by omega)];simp only[map_cons,sum_cons,Nat.add_assoc]
 have wl:∀(q:List eA) (i:Nat) (o:eA),q.length<=8000000->o.length+(q.map List.length).sum+q.length<=274877906944 ->
   forL q i (fun i_52 s_54 o1_46 nx_51 k_50 =>
    call (zi sep o1_46) fun r_55 =>
    call (zi s_54 r_55.2) fun r_56 =>
    nx_51 r_56.2) o (fun o1_46=>call (zA o1_46) fun r_39=>some r_39)=some (o++(q.map (sep++·)).flatten):=by
  intro q
  induction q with
  |nil=>intro i o _ h;simp[forL,zA,ze]
  |cons x q ih =>
   intro i o h1 h;simp only[map_cons,sum_cons,length_cons]at h h1;unfold forL;dsimp only;rw[px _ _ (by simp;omega),ze];dsimp only;rw[px _ _ (by simp;omega),ze];dsimp only;rw[ih _ _ (by omega) (by simp;omega)];simp
 simp only[map_cons,sum_cons]at hs
 have fg:∀n0:Nat,n0<=8000001->forL (a::b::l) 0 (fun i_62 s_64 n_57 nx_61 k_60=>bif decide ((IntKind.i64.wrap (9223372036854775807-n_57))<(s_64.length:Int))then none else nx_61 (IntKind.i64.wrap (n_57+(s_64.length:Int)))) (n0:Int) (fun n_57=>call (H7 n_57 []) fun r_17 =>
   eV (a::b::l) 0 fun s_18 =>
   call (zi s_18 []) fun r_19 =>
   eB (0<=1/\1<=((a::b::l).length:Int)) <|
   forL (List.drop 1 (a::b::l)) 0 (fun i_52 s_54 o1_46 nx_51 k_50 =>
    call (zi sep o1_46) fun r_55 =>
    call (zi s_54 r_55.2) fun r_56 =>
    nx_51 r_56.2) r_19.2 (fun o1_46=>call (zA o1_46) fun r_39=>some r_39))=some (a++((b::l).map (sep++·)).flatten):=fun n0 h0=>by
  rw[sumloop (a::b::l) 0 n0 _ (by simp;omega)];unfold H7;rw[zg (by simp;omega),ze]
  show eV (a::b::l) ((0:Nat):Int) _=_
  rw[fF (by simp),getElem_cons_zero,px _ _ (by simp;omega),ze,zg (by simp;omega)];dsimp only;rw[drop_succ_cons,drop_zero,wl (b::l) 0 _ (by simp;omega) (by simp;omega)];simp
 rcases sep with _|⟨c,_|⟨d,sep⟩⟩
 .rw[ug (by decide)]
  exact fg 0 (by omega)
 .rw[rK (decide_eq_true (by simp))]
  have e1:IntKind.i64.wrap (((a::b::l).length:Int)-1)=((l.length+1:Nat):Int):=by rw[length_cons,length_cons,gI (by omega) (by omega)];omega
  rw[e1,zg (by omega)]
  have e2:1<IntKind.i64.wrap (Int.tdiv 9223372036854775807 ((l.length+1:Nat):Int)):=by
   have h1:Int.tdiv 9223372036854775807 ((l.length+1:Nat):Int)=((9223372036854775807 / (l.length+1):Nat):Int):=by
    rw[Int.tdiv_eq_ediv_of_nonneg (by decide)];rfl
   have h2:9223372036854775807 / 8000001<=9223372036854775807 / (l.length+1):=Nat.div_le_div_left (by omega) (by omega);have h3:9223372036854775807 / (l.length+1)<=9223372036854775807:=Nat.div_le_self _ _;rw[h1,mO _ h3]
   have:2<=9223372036854775807 / 8000001:=by decide
   omega
  rw[ug (decide_eq_false (by simp only[length_singleton];omega))]
  have e3:IntKind.i64.wrap (0+(IntKind.i64.wrap ((([c]:eA).length:Int)*((l.length+1:Nat):Int))))=((l.length+1:Nat):Int):=by
   rw[show(([c]:eA).length:Int)=1 from rfl,Int.one_mul,mO _ (by omega),Int.zero_add,mO _ (by omega)]
  rw[e3];exact fg (l.length+1) (by omega)
 .simp at hsep
theorem yU:∀(s:eA),s.all jD=true->s≠[]->(s.getD 0 0).toNat≠48->0<val 0 s/\Go.Lib.decDigits (val 0 s)=s:=by
 have key:∀(k:Nat) (s:eA),s.length=k->s.all jD=true->s≠[]->(s.getD 0 0).toNat≠48->0<val 0 s/\Go.Lib.decDigits (val 0 s)=s:=by
  intro k
  induction k with
  |zero=>intro s hk _ hn;exact absurd (length_eq_zero_iff.1 hk) hn
  |succ k ih =>
   intro s hk hd hn h0;obtain⟨t,c,rfl⟩:∃t c,s=t++[c]:=⟨s.dropLast,s.getLast hn,(dropLast_concat_getLast hn).symm⟩;rw[length_append,length_singleton]at hk;rw[all_append,Bool.and_eq_true,all_cons,all_nil,Bool.and_true]at hd;have hc:=JL hd.2;rw[mS]
   by_cases ht:t=[]
   .subst ht
    have h0':c.toNat≠48:=h0;rw[show val 0 ([]:eA)*10+(c.toNat-48)=c.toNat-48 from by simp[val]];refine⟨by omega,?_⟩;unfold Go.Lib.decDigits;rw[dif_pos (by omega),show 48+(c.toNat-48)=c.toNat by omega];simp
   .have hp:=length_pos_iff.2 ht
    rw[getD_eq_getElem?_getD,getElem?_append_left hp,<-getD_eq_getElem?_getD]at h0;obtain⟨h1,h2⟩:=ih t (by omega) hd.1 ht h0;refine⟨by omega,?_⟩;unfold Go.Lib.decDigits;rw[dif_neg (by omega),show(val 0 t*10+(c.toNat-48)) / 10=val 0 t by omega,show(val 0 t*10+(c.toNat-48)) % 10=c.toNat-48 by omega,h2,show 48+(c.toNat-48)=c.toNat by omega];simp
 exact fun s=>key s.length s rfl
theorem nG{n:Nat}{s:eA}(h:gW n s=true):s.all jD=true/\s≠[]/\s.length<=n/\Go.Lib.decDigits (val 0 s)=s:=by
 unfold gW at h;simp only[Bool.and_eq_true,Bool.not_eq_true',Bool.or_eq_false_iff,decide_eq_false_iff_not]at h;obtain⟨⟨⟨h1,h2⟩,h3⟩,h4⟩:=h;refine⟨h4,h1,by omega,?_⟩
 by_cases h5:s=[48]
 .subst h5
  unfold Go.Lib.decDigits;rw[dif_pos (by decide)];rfl
 .rw[decide_eq_false h5,Bool.not_false,Bool.and_true,decide_eq_false_iff_not]at h3
  exact(yU s h4 h1 (by omega)).2
theorem A2(s:eA)(L:Int)(hL:L<=100000000):((((!atoiE s)||decide (hP s<0))||!decide ((bif !((!atoiE s)||decide (hP s<0))then Go.Lib.itoa (hP s)else [])=s))||decide (L<hP s))=(!gW 9 s||decide (L<(val 0 s:Nat)))/\(gW 9 s=true->hP s=(val 0 s:Nat)):=by
 cases hn:gW 9 s
 .refine⟨?_,fun h=>by cases h⟩
  rw[Bool.not_false,Bool.true_or];cases he:atoiE s
  .rfl
  by_cases h0:hP s<0
  .rw[decide_eq_true h0];rfl
  rw[decide_eq_false h0]
  by_cases h1:Go.Lib.itoa (hP s)=s
  .by_cases h2:L<hP s
   .rw[decide_eq_true h2,Bool.or_true]
   .have:=Ai (n:=8) (u:=(hP s).toNat) (by omega)
    rw[<-JP (by omega),h1,hn]at this;cases this
  .simp only[Bool.not_true,Bool.or_self,Bool.not_false,cond_true,decide_eq_false h1,Bool.or_true,Bool.true_or]
 .obtain⟨h1,h2,h3,h4⟩:=nG hn
  obtain⟨e1,e2⟩:=OX h1 h2 (by omega);refine⟨?_,fun _=>e1⟩;rw[e1,e2,JP (by omega),decide_eq_false (show ¬ ((val 0 s:Nat):Int)<0 by omega)];simp only[Int.toNat_natCast,h4,Bool.not_true,Bool.or_self,Bool.not_false,cond_true,decide_true,Bool.false_or]
theorem Bt{n:Nat}(h:n<=4194304):(Go.Lib.itoa (n:Int)).length<=20:=by
 rw[JP (by omega)];exact Nat.le_trans ((dd _).len 7 (by simp;omega)) (by decide)
theorem pd(a b:Int):lu [a,b]=some (bif decide (a=0)then b else a):=by
 unfold lu;simp only[eH,forL];cases ha:decide (a=0)
 .rfl
 .cases hb:decide (b=0)
  .rfl
  .simp only[of_decide_eq_true hb,Bool.not_true,cond_false,cond_true]
def wJou:eA:=[106,111,117,114,110,97,108]
def ir:eA:=[99,104,97,110,103,101,115]
def ie:eA:=[111,108,100]
def iW:eA:=[115,117,109]
def mC(w:eA)(l:List ae):eA:=w++32::(Go.Lib.itoa (l.length:Int)++10::fG l)
def iF(j:aj):eA:=wJou++32::(j.v++10::(mC ir j.y++mC ie j.z))
def kf(b:eA):eA:=b++(iW++32::(gy b++[10]))
def lp(j:aj):eA:=kf (iF j)
def eJ(j:aj):Int:=bif decide (fb j.y=0)then fb j.z else fb j.y
def pJ(j:aj):eA×Int :=
 bif !gj j.v then([],5)else bif !decide (eJ j=0)then([],eJ j)else
 bif decide (65536<((lp j).length:Int))then([],4)else(lp j,0)
structure SmL(l:List ae):Prop where
 c:∀c∈l,js c
 d:∀c∈l,uE c
 p:(fG l).length<=4194304
 n:l.length<=4194304
theorem CH(n:Nat)(h:n<=4194304):strconv_Itoa (n:Int)=some (Go.Lib.itoa (n:Int)):=by
 unfold strconv_Itoa;exact zg (by omega) _
theorem Gu{s:eA}(h:gj s=true):s.length<=40:=by
 unfold gj at h;simp only[Bool.and_eq_true,decide_eq_true_eq]at h;omega
theorem nv(w:eA)(l:List ae)(hw:w.length<=10)(h:SmL l):(mC w l).length<=5000000:=by
 have h1:=h.p;have h2:=Bt h.n;unfold mC;simp only[length_append,length_cons];omega
theorem rV(l:List ae)(h:SmL l)(he:fb l=0):BL l=some (fG l) :=
 Oe l h.d (fun c hc=>(CA (Mh he c hc)).1) (by have:=h.p;omega)
theorem xF(j:aj)(h1:SmL j.y)(h2:SmL j.z):yb j=some (pJ j):=by
 unfold yb pJ;rw[CO,ze];cases hn:gj j.v
 .rfl
 have hl:=Gu hn;have g1:=nv ir _ (by decide) h1;have g2:=nv ie _ (by decide) h2;have i1:=Bt h1.n;have i2:=Bt h2.n;have p1:=h1.p;have p2:=h2.p;simp only[Bool.not_true,cond_false];rw[Kv _ h1.c,ze,Kv _ h2.c,ze,pd,ze]
 show(bif !decide (eJ j=0)then some ([],eJ j)else _)=_
 cases he:decide (eJ j=0)
 .rfl
 have hz:=of_decide_eq_true he;unfold eJ at hz
 have e1:fb j.y=0:=by
  cases e1:decide (fb j.y=0)
  .rw[e1,cond_false]at hz;rw[hz]at e1;cases e1
  .exact of_decide_eq_true e1
 rw[e1]at hz;have e2:fb j.z=0:=hz;simp only[Bool.not_true,cond_false]
 have hb:((((((((([106,111,117,114,110,97,108,32]:eA)++j.v)++([10,99,104,97,110,103,101,115,32]:eA))++Go.Lib.itoa (j.y.length:Int))++([10]:eA))++fG j.y)++([111,108,100,32]:eA))++Go.Lib.itoa (j.z.length:Int))++([10]:eA))++fG j.z=iF j:=by
  simp[iF,mC,wJou,ir,ie]
 have hbl:(iF j).length<=20000000:=by
  unfold iF;simp only[length_append,length_cons,show wJou.length=7 from rfl];omega
 have hs:=Fm (iF j)
 have hp:iF j++((([115,117,109,32]:eA)++gy (iF j))++([10]:eA))=lp j:=by
  simp[lp,kf,iW]
 rw[<-hb]at hp hs hbl;rw[zg (by simp;omega),zg (by simp;omega),CH _ h1.n,ze,zg (by simp;omega),zg (by simp;omega),rV _ h1 e1,ze,zg (by simp;omega),zg (by simp;omega),CH _ h2.n,ze,zg (by simp;omega),zg (by simp;omega),rV _ h2 e2,ze,zg (by simp;omega)];rw[MI,ze,zg (by simp only[length_append];rw[hs];simp),zg (by simp only[length_append];rw[hs];simp),zg (by simp only[length_append]at hbl|-;rw[hs];simp only[length_cons,length_nil]at hbl|-;omega)];exact(g6 _ _ _).trans (congrArg (fun t:eA=>some (bif decide (65536<((t.length:Nat):Int))then(([]:eA),(4:Int))else(t,0))) hp)
def EE(c:UInt8):List eA->List eA
 |[]=>[]
 |[x]=>[x]
 |x::y::r=>(x++[c])::EE c (y::r)
theorem o9(c:UInt8)(x:eA){l:List eA}(h:l≠[]):EE c (x::l)=(x++[c])::EE c l:=by
 cases l with
 |nil=>exact absurd rfl h
 |cons y r=>rfl
theorem QJ(s:eA)(c:UInt8)(hs:s.length<=17179869184):FR s [c]=some (EE c (zO c s)):=by
 have hcl:=count_le_length (a:=c) (l:=s)
 have key:BJ s [c] 1 (-1)=some (EE c (zO c s)):=by
  unfold BJ;obtain⟨N,hN⟩:∃N,fJ=N:=⟨_,rfl⟩;have hN2:1099511627776<=N:=hN ▸ un;rw[hN];clear hN
  have hmin:min ((s.count c+1:Nat):Int) ((s.length+1:Nat):Int)=((s.count c+1:Nat):Int):=by omega
  simp only[eH,oE,ze,show decide ((-1:Int)=0)=false from rfl,show decide ((-1:Int)<0)=true from rfl,show decide (([c]:eA)=[])=false from rfl,cond_true,cond_false];simp only[gH (s.count c) (by omega),gH s.length (by omega),hmin];rw[zg (by omega)]
  have hw:IntKind.i64.wrap (((s.count c+1:Nat):Int)-1)=((s.count c:Nat):Int):=by rw[gI (by omega) (by omega)];omega
  simp only[hw,Int.toNat_natCast]
  refine(Bj (S:=eA×Int×List eA) (fun st=>∃i:Nat,st.2.1=i/\st.2.2.length=s.count c+1/\st.1.length<=s.length/\i+st.1.count c=s.count c) (fun st=>s.count c-st.2.1.toNat)
   (fun st=>some (st.2.2.take st.2.1.toNat++EE c (zO c st.1))) ?_ N _ ⟨0,rfl,by simp,Nat.le_refl _,by simp⟩ (by simp only;omega)).trans ?_
  .rintro⟨t,i',o⟩ nx ⟨i,rfl,ho,ht,hc⟩ hnx
   simp only at ho ht hc hnx|-;simp only[GM,ze]
   by_cases hi:i<s.count c
   .have hmem:c∈t:=by rw[<-count_pos_iff];omega
    obtain⟨h1,h2,h3⟩:=mM hmem;have hl:=(uS c t).2.2 h1;obtain⟨t1,t2⟩:=Mx hmem;rw[decide_eq_true (by omega),cond_true,JQ hmem,decide_eq_false (by omega),cond_false];have hw3:IntKind.i64.wrap (((eK c t).1.length:Int)+1)=(((eK c t).1.length+1:Nat):Int):=gH _ (by omega);have hw4:IntKind.i64.wrap (((eK c t).1.length:Int)+(([c]:eA).length:Int))=(((eK c t).1.length+1:Nat):Int):=gH _ (by omega);simp only[hw3,hw4,gH i (by omega),Int.toNat_natCast];rw[zg (by omega),zg (by omega),zg (by omega)];have hdc:=PI hmem
    have t3:t.take ((eK c t).1.length+1)=(eK c t).1++[c]:=by
     have:∀a b:eA,(a++c::b).take (a.length+1)=a++[c]:=by intro a b;simp[take_append];exact take_of_length_le (by omega)
     exact(congrArg (List.take _) h2).trans (this _ _)
    simp only[t3,t2];rw[hnx _ ⟨i+1,rfl,by simpa using ho,by simp only;omega,by simp only;omega⟩ (by simp only[Int.toNat_natCast];omega)];simp only[Int.toNat_natCast];rw[Gz o i _ (by omega)]
    congr 1
    rw[show zO c t=(eK c t).1::zO c (eK c t).2.1 by rw[BA,if_pos h1],o9 c _ (Hk c _)];simp
   .obtain rfl:i=s.count c:=by omega
    rw[decide_eq_false (by omega),cond_false]
    have hmem:c∉t:=by rw[<-count_pos_iff];omega
    rw[zg (by omega),gH _ (by omega)];simp only[Int.toNat_natCast,length_set];rw[zg (by omega),Gz o _ _ (by omega),Hv hmem];rfl
  .simp
 unfold FR
 rw[show((([c]:eA).length:Nat):Int)=1 from rfl,key];rfl
def hI(p s:eA):Bool:=decide (s.take p.length=p)
theorem Kw(s p:eA):BP s p=some (bif hI p s then(s.drop p.length,true)else(s,false)):=by
 unfold BP Lk F1 hI
 by_cases h:s.take p.length=p
 .have hl:p.length<=s.length:=by have:=congrArg List.length h;rw[length_take]at this;omega
  rw[zg (by omega),ze,decide_eq_true (show(p.length:Int)<=(s.length:Int)by omega),decide_eq_true h];simp only[Bool.true_and,Bool.not_true,cond_false,cond_true];rw[zg (by omega)];rfl
 .rw[zg (by intro q;have:=of_decide_eq_true q;omega),ze,decide_eq_false h,Bool.and_false]
  rfl
theorem Pj(x:eA)(c:UInt8)(h:x.length<1099511627776):HV (x++[c]) [c]=some (x,true):=by
 unfold HV Ll Lm
 have hl:(x++[c]).length=x.length+1:=by simp
 have hw:IntKind.i64.wrap (((x++[c]).length:Int)-(([c]:eA).length:Int))=(x.length:Int):=by
  rw[hl,show(([c]:eA).length:Int)=1 from rfl,gI (by omega) (by omega)];omega
 rw[hw,zg (by intro _;omega),ze,decide_eq_true (show((([c]:eA).length:Nat):Int)<=(((x++[c]).length:Nat):Int)by rw[hl];show(1:Int)<=_;omega)];simp only[Int.toNat_natCast,drop_left,decide_true,Bool.true_and,Bool.not_true,cond_false];rw[zg (by omega),take_left];rfl
theorem DK{p x:eA}(h:(10:UInt8)∉p):hI p (x++[10])=hI p x:=by
 unfold hI
 by_cases hl:p.length<=x.length
 .rw[take_append_of_le_length hl]
 .rw[decide_eq_false,decide_eq_false]
  .intro e
   have:=congrArg List.length e;rw[length_take]at this;omega
  .intro e
   rw[take_of_length_le (by simp;omega)]at e;exact h (e ▸ by simp)
theorem Ag{p x:eA}(h:hI p x=true):p.length<=x.length:=by
 have:=congrArg List.length (of_decide_eq_true h);rw[length_take]at this;omega
def nl(x:eA):eA:=x++[10]
theorem nP(w:eA)(l:List eA):zN w l true=some ([],true,l):=rfl
theorem LV(w:eA)(b:Bool):zN w [] b=some ([],true,[]):=by
 unfold zN;rw[show decide ((([]:List eA).length:Int)=0)=true from rfl,Bool.or_true];rfl
theorem L7(w x:eA)(r:List eA)(hw:(10:UInt8)∉w)(hl:w.length<=100)(hx:x.length<=17179869184) :
  zN w (nl x::r) false=some (bif hI (w++[32]) x then x.drop (w++[32]).length else x,!hI (w++[32]) x,r):=by
 unfold zN
 have h10:(10:UInt8)∉w++[32]:=by simp[hw]
 rw[show(false||decide (((nl x::r).length:Int)=0))=false from by rw[Bool.false_or];exact decide_eq_false (by simp only[length_cons];omega),cond_false];rw[show eV (nl x::r) 0=eV (nl x::r) ((0:Nat):Int)from rfl];rw[fF (by simp)];simp only[getElem_cons_zero];rw[zg (by simp;omega),Kw,ze];unfold nl;rw[DK h10];cases hp:hI (w++[32]) x
 .simp only[cond_false]
  rw[Pj _ _ (by omega),ze,zg (by simp only[length_cons];omega)];rfl
 .have:=Ag hp
  simp only[cond_true];rw[drop_append_of_le_length this,Pj _ _ (by simp;omega),ze,zg (by simp only[length_cons];omega)];rfl
def iK:List eA->Option (List ae)
 |[]=>some []
 |x::r=>match qJ x with
  |none=>none
  |some c=>match iK r with
   |none=>none
   |some l=>some (c::l)
def eI(L:List eA):eA:=(L.map nl).flatten
theorem uO(x:eA)(L:List eA):eI (x::L)=x++10::eI L:=by simp[eI,nl]
theorem ke:∀(L:List eA),(∀x∈L,(10:UInt8)∉x)->zO 10 (eI L)=L++[[]]
 |[],_=>rfl
 |x::L,h=>by
  rw[uO,MY (h x (mem_cons_self ..)),ke L fun y hy=>h y (mem_cons_of_mem _ hy)];rfl
theorem OM:∀(L:List eA) (n:Nat) (o:List ae),match iK L with
  |some l=>mJ n o (L++[[]])=.inr (o++l)
  |none=>∃k,mJ n o (L++[[]])=.inl k
 |[],n,o=>by simp[iK,mJ]
 |x::L,n,o=>by
  rw[cons_append,MB _ _ _ _ (by simp)];unfold iK
  cases hs:qJ x with
  |none=>exact⟨n,rfl⟩
  |some c =>
   have:=OM L (n+1) (o++[c])
   revert this
   cases iK L with
   |none=>exact fun h=>h
   |some l=>intro h;simp only at h|-;rw[h];simp
theorem nw(L:List eA)(h:∀x∈L,(10:UInt8)∉x):match iK L with
  |some l=>ja (eI L)=bif !decide (fb l=0)then([],0,fb l)else(l,0,0)
  |none=>∃k,ja (eI L)=([],k,8):=by
 have:=OM L 0 [];unfold ja;rw[ke L h]
 revert this
 cases iK L with
 |none=>rintro⟨k,e⟩;rw[e];exact⟨_,rfl⟩
 |some l=>intro e;simp only[nil_append]at e|-;rw[e]
theorem c8{b:Bool}{x y:Int}(h:x≠8)(h':y≠8):(bif b then x else y)≠8:=by cases b <;> assumption
theorem tB(c:ae):mB c≠8:=by
 unfold mB iv jJ jZ
 repeat' first|refine c8 ?_ ?_|decide
theorem AJ(c:ae):fD c≠8:=by
 unfold fD;exact c8 (by decide) (c8 (by decide) (tB c))
theorem ow:∀(l:List ae),fb l≠8
 |[]=>by decide
 |c::l=>by
  unfold fb;cases h:!decide (fD c=0)
  .exact ow l
  .exact AJ c
def s7(w x:eA)(n:Nat):Bool:=hI (w++[32]) x&&(gW 9 (x.drop (w++[32]).length)&&decide (val 0 (x.drop (w++[32]).length)<=n))
def gN(w x:eA):Nat:=val 0 (x.drop (w++[32]).length)
def gv(w:eA):List eA->Option (List ae×List eA)
 |[]=>none
 |x::r=>bif s7 w x r.length then(iK (r.take (gN w x))).map (fun cs=>(cs,r.drop (gN w x)))else none
theorem CN(w x:eA)(r:List eA):gv w (x::r)=bif s7 w x r.length then(iK (r.take (gN w x))).map (fun cs=>(cs,r.drop (gN w x)))else none:=rfl
theorem wq(L:List eA)(h:L.length<=4194304)(hs:(eI L).length<=4194304):yN (L.map nl) []=some (eI L):=by
 cases L with
 |nil=>rfl
 |cons a l =>
  have e:((l.map nl).map List.length).sum+(nl a).length=(eI (a::l)).length:=by
   simp[eI,length_flatten];omega
  rw[map_cons,rt [] (nl a) (l.map nl) (by decide) (by simp only[length_map,length_cons]at h|-;omega) (by omega)];simp[eI];rfl
theorem yH{w:eA}{L r:List eA}{cs:List ae}(h:gv w L=some (cs,r)):∃k,r=L.drop k:=by
 cases L with
 |nil=>cases h
 |cons x l =>
  rw[CN]at h;cases ho:s7 w x l.length
  .rw[ho]at h;cases h
  .rw[ho,cond_true,Option.map_eq_some_iff]at h
   obtain⟨c,_,e⟩:=h;cases e;exact⟨gN w x+1,rfl⟩
theorem Gg(a b:List eA):eI (a++b)=eI a++eI b:=by simp[eI]
theorem xg(L:List eA)(k:Nat):(eI (L.take k)).length+(eI (L.drop k)).length=(eI L).length:=by
 rw[<-length_append,<-Gg,take_append_drop]
theorem Fr(L:List eA)(k:Nat):(eI (L.drop k)).length<=(eI L).length:=by have:=xg L k;omega
theorem MN(L:List eA)(k:Nat):(eI (L.take k)).length<=(eI L).length:=by have:=xg L k;omega
theorem Cr(L:List eA):L.length<=(eI L).length:=by
 induction L with
 |nil=>simp
 |cons x L ih=>rw[uO];simp;omega
theorem Cs{L:List eA}{x:eA}(h:x∈L):x.length<=(eI L).length:=by
 induction L with
 |nil=>cases h
 |cons y L ih =>
  rw[uO]
  rcases mem_cons.1 h with rfl|h
  .simp
  .have:=ih h;simp;omega
theorem MO(w:eA)(l:List eA):∃a e r,zo w l true=some (a,e,r,true):=by
 unfold zo;rw[nP,ze,KQ,ze];exact⟨_,_,_,rfl⟩
def Td(p:Option (List ae×List eA))(z:Option (List ae×Int×List eA×Bool)):Prop:=match p with
 |some q=>z=some (bif !decide (fb q.1=0)then []else q.1,fb q.1,q.2.map nl,false)
 |none=>∃a e r,z=some (a,e,r,true)
theorem OR(w:eA)(L:List eA)(hw:(10:UInt8)∉w)(hl:w.length<=100)(h10:∀x∈L,(10:UInt8)∉x)(hs:(eI L).length<=4194304) :
  Td (gv w L) (zo w (L.map nl) false):=by
 unfold zo
 cases L with
 |nil=>rw[map_nil,LV,ze,KQ,ze];exact⟨_,_,_,rfl⟩
 |cons x r =>
  have hx:=Cs (mem_cons_self (a:=x) (l:=r));have hc:=Cr (x::r);simp only[length_cons]at hc;rw[map_cons,L7 w x _ hw hl (by omega)];have hk:s7 w x r.length=(hI (w++[32]) x&&(gW 9 (x.drop (w++[32]).length)&&decide (val 0 (x.drop (w++[32]).length)<=r.length))):=rfl
  have hno:s7 w x r.length=false->gv w (x::r)=none:=fun h=>by rw[CN,h];rfl
  cases hp:hI (w++[32]) x
  .rw[hp,Bool.false_and]at hk
   rw[hno hk,ze,KQ,ze];simp only[Bool.not_false,Bool.true_or,cond_true,cond_false];exact⟨_,_,_,rfl⟩
  rw[hp,Bool.true_and]at hk;rw[cond_true,Bool.not_true,ze];simp only;rw[KQ];cases hn:gW 9 (x.drop (w++[32]).length)
  .rw[hn,Bool.false_and]at hk
   rw[hno hk,cond_false,ze];exact⟨_,_,_,rfl⟩
  rw[hn,Bool.true_and]at hk;rw[cond_true,ze];simp only[Bool.not_true,Bool.false_or]
  have hyes:s7 w x r.length=true->gv w (x::r)=(iK (r.take (val 0 (x.drop (w++[32]).length)))).map (fun cs=>(cs,r.drop (val 0 (x.drop (w++[32]).length)))):=fun h=>by rw[CN,h];rfl
  revert hk hyes
  generalize val 0 (x.drop (w++[32]).length)=n;intro hk hyes;rw[length_map]
  by_cases hle:n<=r.length
  .rw[decide_eq_true hle]at hk
   rw[hyes hk,decide_eq_false (show ¬ ((r.length:Int)<(n:Int))by omega),cond_false,zg (by omega)]
   have hs2:(eI r).length<=4194304:=by
    have:=Fr (x::r) 1;simp only[drop_succ_cons,drop_zero]at this;omega
   have hs3:=MN r n;simp only[Int.toNat_natCast];rw[<-map_take,wq _ (by rw[length_take];omega) (by omega),ze,RF _ (by omega),ze,zg (by omega),<-map_drop]
   have hp:=nw (r.take n) fun y hy=>h10 y (mem_cons_of_mem _ (mem_of_mem_take hy))
   revert hp
   cases iK (r.take n)with
   |none=>rintro⟨k,e⟩;rw[e];exact⟨_,_,_,rfl⟩
   |some cs =>
    intro e;simp only at e;rw[e]
    show _=some _
    have h8:=ow cs;cases he:decide (fb cs=0)
    .simp only[Bool.not_false,cond_true,decide_eq_false h8]
    .simp only[Bool.not_true,cond_false,of_decide_eq_true he]
     rfl
  .rw[decide_eq_false hle]at hk
   rw[hno hk,decide_eq_true (show(r.length:Int)<(n:Int)by omega),cond_true];exact⟨_,_,_,rfl⟩
theorem Aq{v:eA}(h:atoiE v=true):strconv_Itoa (hP v)=some (Go.Lib.itoa (hP v)):=by
 have hb:-9223372036854775808<=hP v/\hP v<=9223372036854775807:=by
  unfold atoiE at h;unfold hP
  cases e:Go.Lib.atoiAll v with
  |ok v=>exact Go.Lib.atoiAll_bounds e
  |_=>rw[e]at h;cases h
 unfold strconv_Itoa;exact zg hb _
theorem qC{Z:Type}(v:eA)(k:eA->Option Z):callG (!((!atoiE v)||decide (hP v<0))) (strconv_Itoa (hP v)) [] k=k (bif !((!atoiE v)||decide (hP v<0))then Go.Lib.itoa (hP v)else []):=by
 cases h:atoiE v
 .rfl
 .rw[Aq h,ii]
def F5(L o:Nat):Option (List ae×List eA)->List ae×Bool×Int
 |none=>([],false,(o:Int))
 |some q=>(q.1,true,((L-q.2.length:Nat):Int))
theorem k8(w:eA)(L:List eA)(o:Nat)(hl:w.length<=100)(hs:(eI L).length<=4194304) :
  BS w (o:Int) L=some (F5 L.length o (gv w (L.drop o))):=by
 have hc:=Cr L;unfold BS
 by_cases ho:L.length<=o
 .rw[decide_eq_true (by omega),cond_true,drop_eq_nil_of_le ho];rfl
 have ho':o<L.length:=by omega
 rw[decide_eq_false (by omega),cond_false,fF ho',drop_eq_getElem_cons ho',zg (by simp;omega),Kw];have hx:=Cs (getElem_mem ho');have hr:(L.drop (o+1)).length=L.length-(o+1):=length_drop;generalize L[o]=x at hx|-;have hk:s7 w x (L.drop (o+1)).length=(hI (w++[32]) x&&(gW 9 (x.drop (w++[32]).length)&&decide (val 0 (x.drop (w++[32]).length)<=(L.drop (o+1)).length))):=rfl
 have hno:s7 w x (L.drop (o+1)).length=false->gv w (x::L.drop (o+1))=none:=fun h=>by rw[CN,h];rfl
 cases hp:hI (w++[32]) x
 .rw[hp,Bool.false_and]at hk
  rw[hno hk];rfl
 rw[hp,Bool.true_and]at hk;rw[cond_true,ze];simp only
 have hyes:s7 w x (L.drop (o+1)).length=true->gv w (x::L.drop (o+1))=(iK ((L.drop (o+1)).take (val 0 (x.drop (w++[32]).length)))).map (fun cs=>(cs,(L.drop (o+1)).drop (val 0 (x.drop (w++[32]).length)))):=fun h=>by rw[CN,h];rfl
 revert hk hyes
 generalize x.drop (w++[32]).length=v;intro hk hyes
 have hw:IntKind.i64.wrap (IntKind.i64.wrap ((L.length:Int)-(o:Int))-1)=((L.drop (o+1)).length:Int):=by
  rw[hr,gI (n:=(L.length:Int)-(o:Int)) (by omega) (by omega),gI (by omega) (by omega)];omega
 obtain⟨q1,q2⟩:=A2 v ((L.drop (o+1)).length:Int) (by omega);rw[show HG v=some (hP v,atoiE v)from rfl,ze];simp only[Bool.not_true,Bool.false_or];rw[qC,hw,q1];cases hn:gW 9 v
 .rw[hn,Bool.false_and]at hk
  rw[hno hk];rfl
 rw[hn,Bool.true_and]at hk;rw[q2 hn];simp only[Bool.not_true,Bool.false_or]
 revert hk hyes
 generalize val 0 v=n;intro hk hyes
 by_cases hle:n<=(L.drop (o+1)).length
 .rw[decide_eq_true hle]at hk
  rw[hyes hk,decide_eq_false (by omega),cond_false,eH,gH o (by omega)]
  have hw2:IntKind.i64.wrap (((o+1:Nat):Int)+(n:Int))=((o+1+n:Nat):Int):=by rw[gI (by omega) (by omega)];omega
  have hw3:IntKind.i64.wrap ((o:Int)+IntKind.i64.wrap (1+(n:Int)))=((o+1+n:Nat):Int):=by rw[gI (n:=1+(n:Int)) (by omega) (by omega),gI (by omega) (by omega)];omega
  rw[hw2,hw3,zg (by omega)];simp only[Int.toNat_natCast];rw[show o+1+n-(o+1)=n by omega]
  refine(Bf (fun i l (s:List ae)=>(∀y∈l,y.length<=17179869184)/\s.length+l.length<=4194304) (fun i l s=>match iK l with
   |none=>some ([],false,(o:Int))
   |some cs=>some (s++cs,true,((o+1+n:Nat):Int))) (fun i s h=>by simp[iK]) (fun i y l s nx h hnx=>?_) _ 0 [] ⟨fun y hy=>?_,?_⟩).trans ?_
  .obtain⟨c,e1,e2⟩:=oJ y (h.1 y (mem_cons_self ..))
   have h2:=h.2;simp only[length_cons]at h2;rw[e1,ze];unfold iK qJ;cases hok:s8 y
   .rfl
   .obtain rfl:=e2 hok
    simp only[Bool.not_true,cond_false,cond_true];rw[zg (by simp;omega),hnx _ ⟨fun z hz=>h.1 z (mem_cons_of_mem _ hz),by simp;omega⟩]
    cases iK l with
    |none=>rfl
    |some cs=>simp
  .have:=Cs (mem_of_mem_drop (mem_of_mem_take hy))
   omega
  .simp only[length_nil,length_take];omega
  .cases iK ((L.drop (o+1)).take n)with
   |none=>rfl
   |some cs =>
    simp only[nil_append,Option.map_some,F5,length_drop];rw[show L.length-(L.length-(o+1)-n)=o+1+n by omega]
 .rw[decide_eq_false hle]at hk
  rw[hno hk,decide_eq_true (by omega),cond_true];rfl
theorem u6{s t:eA}(h:iu s=(t,0)):pq t=s:=by
 unfold iu at h;cases hq:yq s
 .rw[hq]at h;cases h
 .rw[hq,cond_true]at h
  unfold fg at h
  cases hu:r9 (gX s)with
  |none=>rw[hu]at h;cases h
  |some u =>
   rw[hu]at h;cases h;have:=Pc s hq;rw[<-MZ hu]at this;rw[this];rfl
theorem Mu{s:eA}(h:decide ((iu s).2=0)=true):pq (iu s).1=s :=
 u6 (by have:=of_decide_eq_true h;rw[<-this])
theorem oQ{b:eA}(h:gz b=true):jV (decide (b=([49]:eA)))=b:=by
 unfold gz at h;rw[Bool.or_eq_true,decide_eq_true_eq,decide_eq_true_eq]at h
 rcases h with rfl|rfl <;> rfl
theorem DA{s a b c:eA}(h:zO 32 s=[a,b,c]):s=a++32::(b++32::c):=by
 rw[BA]at h;split at h
 .rename_i h1
  obtain⟨e1,e2,_⟩:=mM (c:=32) (s:=s) (by
   apply Classical.byContradiction;intro hn;rw[uu hn]at h1;cases h1)
  rw[List.cons.injEq]at h;obtain⟨rfl,h⟩:=h;rw[BA]at h;split at h
  .rename_i h3
   obtain⟨e3,e4,_⟩:=mM (c:=32) (s:=(eK 32 s).2.1) (by
    apply Classical.byContradiction;intro hn;rw[uu hn]at h3;cases h3)
   rw[List.cons.injEq]at h;obtain⟨rfl,h⟩:=h
   have hc:(eK 32 (eK 32 s).2.1).2.1=c:=by
    rw[BA]at h;split at h
    .rw[List.cons.injEq]at h
     exact absurd h.2 (Hk _ _)
    .rw[List.cons.injEq]at h
     exact h.1
   rw[<-hc,<-e4,<-e2]
  .cases h
 .cases h
theorem ta(l:eA)(h:s8 l=true):uj (oK l)=l:=by
 unfold s8 at h;rw[Bool.and_eq_true]at h;obtain⟨h1,h2⟩:=h
 have hg:(!(eK 32 l).2.2||decide (fK l=[]))=false:=by
  cases hg:(!(eK 32 l).2.2||decide (fK l=[]))
  .rfl
  .unfold hU at h1
   dsimp only at h1;rw[hg]at h1;cases h1
 have ha:(eK 32 l).2.2=true:=by
  cases ha:(eK 32 l).2.2
  .rw[ha]at hg;cases hg
  .rfl
 have hl:l=lr l++32::gx l:=by
  refine(mM (c:=32) (s:=l) ?_).2.1
  apply Classical.byContradiction;intro hn;rw[uu hn]at ha;cases ha
 have hr2:fX l=true->gx l=fK l++32::zbW l:=fun ht=>by
  refine(mM (c:=32) (s:=gx l) ?_).2.1
  apply Classical.byContradiction;intro hn;unfold fX at ht;rw[uu hn]at ht;cases ht
 have hr1:fX l=false->fK l=gx l:=fun ht=>ni l ht
 have hrd:∀w,lr l=w->hU l=(let k:=fK l;let u:=iu (zbW l)
   bif decide (w=ik)||decide (w=gR)then(⟨w,fw,⟨k,u.1⟩,fu⟩,fX l&&decide (u.2=0))else
   bif ((decide (w=ij)||decide (w=jQ))||decide (w=gS))||decide (w=pu)then(⟨w,⟨k,u.1,decide (w=jQ)||decide (w=pu)⟩,fU,fu⟩,fX l&&decide (u.2=0))else
   bif decide (w=sr)then(match fX l,fZ k (zO 32 (zbW l))with
    |true,some s=>(⟨w,fw,fU,s⟩,true)
    |_,_=>(⟨[],fw,fU,fu⟩,false))else
   bif decide (w=sj)then(⟨w,⟨k,[],false⟩,fU,fu⟩,!fX l)else
   bif decide (w=sf)then(⟨w,fw,⟨k,[]⟩,fu⟩,!fX l)else
   bif decide (w=sa)then(⟨w,fw,fU,⟨k,[],false,false⟩⟩,!fX l)else
   (⟨w,fw,fU,fu⟩,!fX l)):=fun w e=>by
  unfold hU
  simp only[hg,cond_false,e] <;> rfl
 by_cases w1:lr l=gS
 .have e:hU l=(⟨gS,⟨fK l,(iu (zbW l)).1,false⟩,fU,fu⟩,fX l&&decide ((iu (zbW l)).2=0)):=hrd _ w1
  rw[e,Bool.and_eq_true]at h1;unfold oK;rw[e]
  show gS++32::(fK l++32::pq (iu (zbW l)).1)=l
  rw[Mu h1.2,<-hr2 h1.1,<-w1,<-hl]
 by_cases w2:lr l=pu
 .have e:hU l=(⟨pu,⟨fK l,(iu (zbW l)).1,true⟩,fU,fu⟩,fX l&&decide ((iu (zbW l)).2=0)):=hrd _ w2
  rw[e,Bool.and_eq_true]at h1;unfold oK;rw[e]
  show pu++32::(fK l++32::pq (iu (zbW l)).1)=l
  rw[Mu h1.2,<-hr2 h1.1,<-w2,<-hl]
 by_cases w3:lr l=sj
 .have e:hU l=(⟨sj,⟨fK l,[],false⟩,fU,fu⟩,!fX l):=hrd _ w3
  rw[e,Bool.not_eq_true']at h1;unfold oK;rw[e]
  show sj++32::fK l=l
  rw[hr1 h1,<-w3,<-hl]
 by_cases w4:lr l=gR
 .have e:hU l=(⟨gR,fw,⟨fK l,(iu (zbW l)).1⟩,fu⟩,fX l&&decide ((iu (zbW l)).2=0)):=hrd _ w4
  rw[e,Bool.and_eq_true]at h1;unfold oK;rw[e]
  show gR++32::(fK l++32::pq (iu (zbW l)).1)=l
  rw[Mu h1.2,<-hr2 h1.1,<-w4,<-hl]
 by_cases w5:lr l=sf
 .have e:hU l=(⟨sf,fw,⟨fK l,[]⟩,fu⟩,!fX l):=hrd _ w5
  rw[e,Bool.not_eq_true']at h1;unfold oK;rw[e]
  show sf++32::fK l=l
  rw[hr1 h1,<-w5,<-hl]
 by_cases w7:lr l=sa
 .have e:hU l=(⟨sa,fw,fU,⟨fK l,[],false,false⟩⟩,!fX l):=hrd _ w7
  rw[e,Bool.not_eq_true']at h1;unfold oK;rw[e]
  show sa++32::fK l=l
  rw[hr1 h1,<-w7,<-hl]
 by_cases w6:lr l=sr
 .have e:hU l=(match fX l,fZ (fK l) (zO 32 (zbW l))with
    |true,some s=>(⟨sr,fw,fU,s⟩,true)
    |_,_=>(⟨[],fw,fU,fu⟩,false)):=hrd _ w6
  cases ht:fX l
  .rw[ht]at e;rw[e]at h1;cases h1
  cases hs:fZ (fK l) (zO 32 (zbW l))with
  |none=>rw[ht,hs]at e;rw[e]at h1;cases h1
  |some s =>
   rw[ht,hs]at e;unfold oK;rw[e]
   show sr++32::(s.j++32::(s.a++32::(jV s.u++32::jV s.t)))=l
   unfold fZ at hs;split at hs
   .rename_i a b c hsp
    cases hb:(decide (a=[])||!gz b)||!gz c
    .rw[hb,cond_false]at hs
     cases hs;simp only[Bool.or_eq_false_iff,Bool.not_eq_false']at hb;simp only;rw[oQ hb.1.2,oQ hb.2,<-DA hsp,<-hr2 ht,<-w6,<-hl]
    .rw[hb]at hs;cases hs
   .cases hs
 .exfalso
  have hw:(hU l).1.A=lr l:=by
   rw[hrd _ rfl];simp only[decide_eq_false w1,decide_eq_false w2,decide_eq_false w3,decide_eq_false w4,decide_eq_false w5,decide_eq_false w6,decide_eq_false w7,Bool.or_false,cond_false];cases decide (lr l=ik)
   .cases decide (lr l=ij)||decide (lr l=jQ) <;> rfl
   .rfl
  rw[hw]at h2;unfold xL at h2;simp only[decide_eq_false w1,decide_eq_false w2,decide_eq_false w3,decide_eq_false w4,decide_eq_false w5,decide_eq_false w6,decide_eq_false w7,Bool.or_false,cond_false]at h2;cases h2
theorem MJ:∀(L:List eA) {cs:List ae},iK L=some cs->fG cs=eI L/\cs.length=L.length
 |[],cs,h=>by cases h;exact⟨rfl,rfl⟩
 |x::L,cs,h=>by
  unfold iK at h
  cases hs:qJ x with
  |none=>rw[hs]at h;cases h
  |some c =>
   cases hr:iK L with
   |none=>rw[hs,hr]at h;cases h
   |some l =>
    rw[hs,hr]at h;cases h;obtain⟨e1,e2⟩:=MJ L hr;obtain⟨o1,rfl⟩:=Kc hs;rw[Fv,uO,ta x o1,e1];exact⟨by simp,by simp[e2]⟩
theorem L0{p x:eA}(h:hI p x=true):x=p++x.drop p.length:=by
 have:=of_decide_eq_true h
 conv=>lhs;rw[<-take_append_drop p.length x,this]
theorem Oh{w:eA}{L r:List eA}{cs:List ae}(h:gv w L=some (cs,r)):eI L=mC w cs++eI r:=by
 cases L with
 |nil=>cases h
 |cons x l =>
  rw[CN]at h;cases ho:s7 w x l.length
  .rw[ho]at h;cases h
  .rw[ho,cond_true,Option.map_eq_some_iff]at h
   obtain⟨c,hs,e⟩:=h;cases e;unfold s7 at ho;rw[Bool.and_eq_true,Bool.and_eq_true]at ho;obtain⟨h1,h2,h3⟩:=ho;have h3:gN w x<=l.length:=of_decide_eq_true h3;obtain⟨e1,e2⟩:=MJ _ hs;obtain⟨_,_,_,hv⟩:=nG h2;have hx:=L0 h1;unfold mC;rw[e2,length_take,Nat.min_eq_left h3,JP (by omega),Int.toNat_natCast]
   show eI (x::l)=w++32::(Go.Lib.decDigits (val 0 (x.drop (w++[32]).length))++10::fG cs)++eI (l.drop (gN w x))
   rw[hv,e1,uO]
   have hcl:eI l=eI (l.take (gN w x))++eI (l.drop (gN w x)):=by rw[<-Gg,take_append_drop]
   rw[hcl];generalize gN w x=n
   conv=>lhs;rw[hx]
   simp
theorem DI:∀(n:Nat) (s:eA),s.length<=n->∃L t,zO 10 s=L++[t]/\s=eI L++t/\(∀x∈L,(10:UInt8)∉x)/\(10:UInt8)∉t:=by
 intro n
 induction n with
 |zero =>
  intro s h;obtain rfl:=length_eq_zero_iff.1 (Nat.le_zero.1 h);exact⟨[],[],rfl,rfl,by simp,by simp⟩
 |succ n ih =>
  intro s h
  by_cases hm:(10:UInt8)∈s
  .obtain⟨h1,h2,h3⟩:=mM hm
   have hl:=(uS 10 s).2.2 h1;obtain⟨L,t,e1,e2,e3,e4⟩:=ih (eK 10 s).2.1 (by omega);refine⟨(eK 10 s).1::L,t,?_,?_,?_,e4⟩
   .rw[BA,if_pos h1,e1];rfl
   .rw[uO,append_assoc,cons_append,<-e2];exact h2
   .intro x hx
    rcases mem_cons.1 hx with rfl|hx
    .exact h3
    .exact e3 x hx
  .exact⟨[],s,Hv hm,rfl,by simp,hm⟩
theorem rR(c:UInt8):∀(L:List eA) (t:eA),EE c (L++[t])=L.map (fun x=>x++[c])++[t]
 |[],t=>rfl
 |x::L,t=>by rw[cons_append,o9 c x (by simp),rR c L t];rfl
def qv(c:UInt8):Bool:=(decide (48<=(c.toNat:Int))&&decide ((c.toNat:Int)<=57))||(decide (97<=(c.toNat:Int))&&decide ((c.toNat:Int)<=102))
def yx(s:eA):Bool:=s.all qv&&decide ((s.length:Int)=16)
theorem wu(c:UInt8):(((decide ((c.toNat:Int)<48))||(decide (57<(c.toNat:Int))))&&((decide ((c.toNat:Int)<97))||(decide (102<(c.toNat:Int)))))=!qv c:=by
 unfold qv;rw[Bool.eq_iff_iff];simp only[Bool.and_eq_true,Bool.or_eq_true,decide_eq_true_eq,Bool.not_eq_true',Bool.or_eq_false_iff,Bool.and_eq_false_iff,decide_eq_false_iff_not];omega
theorem qH(s:eA):Gm s=some (yx s):=by
 unfold Gm yx;simp only[eH];rw[sq qv (fun i x nx k=>by rw[wu,uH,Bool.not_not])]
 cases s.all qv <;> rfl
def ZJ:aj:=⟨[],[],[]⟩
def AA(j:aj)(n:Nat):aj×Int :=
 bif !gj j.v then(ZJ,5)else bif !decide (eJ j=0)then(ZJ,eJ j)else bif decide (65536<(n:Int))then(ZJ,4)else(j,0)
def EF(L:List eA)(j:aj)(y:eA):aj×Int :=
 bif !hI (iW++[32]) y||!yx (y.drop 4)then(ZJ,8)else bif !decide (gy (eI L.dropLast)=y.drop 4)then(ZJ,14)else AA j (eI L).length
def F7(L:List eA)(id:eA)(c:List ae):Option (List ae×List eA)->aj×Int
 |none=>(ZJ,8)
 |some q=>match q.2 with
  |[y]=>EF L ⟨id,c,q.1⟩ y
  |_=>(ZJ,8)
def Lw(L:List eA)(id:eA):Option (List ae×List eA)->aj×Int
 |none=>(ZJ,8)
 |some q=>F7 L id q.1 (gv ie q.2)
def PJ(L:List eA)(t:eA):aj×Int :=
 bif !decide (t=[])then(ZJ,8)else match L with
  |[]=>(ZJ,8)
  |x::r=>bif !hI (wJou++[32]) x then(ZJ,8)else Lw L (x.drop 8) (gv ir r)
theorem tE(s:eA)(hs:s.length<=4194304){L:List eA}{t:eA}(h:zO 10 s=L++[t]):G6 s=some (bif decide (t=[])then(L,-1)else(L++[t],(L.length:Int))):=by
 have hc:=Q8 10 s;have hcl:=count_le_length (a:=(10:UInt8)) (l:=s);rw[h,length_append,length_singleton]at hc;unfold G6;rw[GA s 10 (by omega),ze,h]
 have hw:IntKind.i64.wrap (((L++[t]).length:Int)-1)=(L.length:Int):=by
  rw[length_append,length_singleton,gI (by omega) (by omega)];omega
 rw[hw,fF (by simp)];simp only[getElem_append_right (Nat.le_refl _),Nat.sub_self,getElem_singleton];rw[zg (by simp;omega)];simp only[Int.toNat_natCast,take_left];exact g6 _ _ _
theorem yV(s:eA):(iu s).1.length<=s.length:=by
 unfold iu;cases yq s
 .simp
 .rw[cond_true]
  cases hu:r9 (gX s)with
  |none=>simp[fg]
  |some u =>
   have h1:=MZ hu;have h2:=rJ u;rw[h1]at h2
   have h3:(gX s).length<=s.length:=by unfold gX;simp;omega
   simp only[fg];omega
def QD(N:Nat)(x:ak×Bool):Prop:=x.1.C.q.length<=N/\x.1.D.Value.length<=N
theorem QB{N:Nat}{b:Bool}{x y:ak×Bool}(h:QD N x)(h':QD N y):QD N (bif b then x else y):=by cases b <;> assumption
theorem vI(l:eA):QD l.length (hU l):=by
 have h1:=yV (zbW l);have h2:=(kH l).2;unfold hU;refine QB ⟨Nat.zero_le _,Nat.zero_le _⟩ (QB ⟨Nat.zero_le _,Nat.le_trans h1 h2⟩ (QB ⟨Nat.le_trans h1 h2,Nat.zero_le _⟩ (QB ?_ (QB ⟨Nat.zero_le _,Nat.zero_le _⟩ (QB ⟨Nat.zero_le _,Nat.zero_le _⟩ (QB ⟨Nat.zero_le _,Nat.zero_le _⟩ ⟨Nat.zero_le _,Nat.zero_le _⟩))))));split
 .exact⟨Nat.zero_le _,Nat.zero_le _⟩
 .exact⟨Nat.zero_le _,Nat.zero_le _⟩
theorem AR(l:eA)(hl:l.length<=4194304):uE (oK l):=by
 have:=vI l;exact⟨by have:=this.1;unfold oK;simp only;omega,by have:=this.2;unfold oK;simp only;omega⟩
theorem Ms:∀(L:List eA) {cs:List ae},iK L=some cs->∀c∈cs,∃x∈L,c=oK x
 |[],cs,h,c,hc=>by cases h;cases hc
 |x::L,cs,h,c,hc=>by
  unfold iK at h
  cases hs:qJ x with
  |none=>rw[hs]at h;cases h
  |some d =>
   cases hr:iK L with
   |none=>rw[hs,hr]at h;cases h
   |some l =>
    rw[hs,hr]at h;cases h
    rcases mem_cons.1 hc with rfl|hc
    .exact⟨x,mem_cons_self ..,(Kc hs).2⟩
    .obtain⟨y,hy,e⟩:=Ms L hr c hc
     exact⟨y,mem_cons_of_mem _ hy,e⟩
theorem vr{L:List eA}{cs:List ae}(h:iK L=some cs)(hs:(eI L).length<=4194304):SmL cs:=by
 obtain⟨e1,e2⟩:=MJ L h;have hl:=Cr L;refine⟨fun c hc=>?_,fun c hc=>?_,by rw[e1];exact hs,by omega⟩
 .obtain⟨x,hx,rfl⟩:=Ms L h c hc
  have:=Cs hx;exact xf x (by omega)
 .obtain⟨x,hx,rfl⟩:=Ms L h c hc
  have:=Cs hx;exact AR x (by omega)
theorem EW{w:eA}{L r:List eA}{cs:List ae}(h:gv w L=some (cs,r))(hs:(eI L).length<=4194304):SmL cs/\r.length+1<=L.length/\(eI r).length<=(eI L).length/\r=L.drop (L.length-r.length):=by
 cases L with
 |nil=>cases h
 |cons x l =>
  rw[CN]at h;cases ho:s7 w x l.length
  .rw[ho]at h;cases h
  .rw[ho,cond_true,Option.map_eq_some_iff]at h
   obtain⟨c,hc,e⟩:=h;cases e;unfold s7 at ho;rw[Bool.and_eq_true,Bool.and_eq_true]at ho;have h3:gN w x<=l.length:=of_decide_eq_true ho.2.2;have h0:(eI l).length<=(eI (x::l)).length:=Fr (x::l) 1;have h1:=MN l (gN w x);have h2:=Fr l (gN w x);refine⟨vr hc (by omega),by simp,by omega,?_⟩
   have:(x::l).length-(l.drop (gN w x)).length=gN w x+1:=by simp;omega
   rw[this];rfl
theorem xG{L:List eA}(hs:(eI L).length<=4194304)(h:L.length<4):PJ L []=(ZJ,8):=by
 unfold PJ
 cases L with
 |nil=>rfl
 |cons x r =>
  simp only[decide_true,Bool.not_true,cond_false];cases hI (wJou++[32]) x
  .rfl
  have h0:(eI r).length<=(eI (x::r)).length:=Fr (x::r) 1
  cases h1:gv ir r with
  |none=>rfl
  |some q =>
   obtain⟨c,r1⟩:=q;obtain⟨_,a1,a2,_⟩:=EW h1 (by omega)
   show F7 (x::r) (x.drop 8) c (gv ie r1)=_
   cases h2:gv ie r1 with
   |none=>rfl
   |some q =>
    obtain⟨o,r2⟩:=q;obtain⟨_,b1,_,_⟩:=EW h2 (by omega);simp only[length_cons]at h;obtain rfl:r2=[]:=length_eq_zero_iff.1 (by omega);rfl
theorem Ed{L:List eA}(hne:L≠[])(hs:(eI L).length<=4194304):∃z,yN L [10]=some z/\z++[10]=eI L:=by
 have hl:=Cr L
 cases L with
 |nil=>exact absurd rfl hne
 |cons a l =>
  have e:(l.map List.length).sum+a.length<=(eI (a::l)).length:=by
   have:∀l:List eA,(l.map List.length).sum<=(eI l).length:=by
    intro l
    induction l with
    |nil=>simp[eI]
    |cons x l ih=>rw[uO];simp;omega
   rw[uO];have:=this l
   simp;omega
  refine⟨_,rt [10] a l (by decide) (by simp only[length_cons]at hl;omega) (by omega),?_⟩
  have:∀(l:List eA) (a:eA),a++(l.map (([10]:eA)++·)).flatten++[10]=eI (a::l):=by
   intro l
   induction l with
   |nil=>intro a;simp[eI,nl]
   |cons x l ih =>
    intro a;rw[uO,<-ih x];simp
  exact this l a
theorem Az(j:aj)(s:eA)(hp:eJ j=0->lp j=s):AA j s.length=(bif !decide ((pJ j).2=0)then(ZJ,(pJ j).2)else bif !decide ((pJ j).1=s)then(ZJ,8)else(j,0)):=by
 unfold AA pJ;cases gj j.v
 .rfl
 simp only[Bool.not_true,cond_false];cases he:decide (eJ j=0)
 .simp only[Bool.not_false,cond_true,he]
 .have h:=hp (of_decide_eq_true he)
  simp only[Bool.not_true,cond_false,h];cases decide (65536<(s.length:Int))
  .simp
  .rfl
theorem qg{x y:eA}{r r1:List eA}{c o:List ae}(hx:hI (wJou++[32]) x=true)(h1:gv ir r=some (c,r1))(h2:gv ie r1=some (o,[y]))
  (hy:hI (iW++[32]) y=true) (hs:gy (eI ((x::r).dropLast))=y.drop 4):lp ⟨x.drop 8,c,o⟩=eI (x::r):=by
 have e1:=Oh h1;have e2:=Oh h2;have ex:=L0 hx;have ey:=L0 hy
 have hr:∃q,r=q++[y]:=by
  obtain⟨k,rfl⟩:=yH h1;obtain⟨m,hm⟩:=yH h2;rw[drop_drop]at hm;exact⟨r.take (k+m),by rw[hm,take_append_drop]⟩
 obtain⟨q,rfl⟩:=hr
 have hdl:(x::(q++[y])).dropLast=x::q:=by
  rw[show(x::(q++[y]))=(x::q)++[y]from rfl,dropLast_concat]
 rw[hdl]at hs
 have hc:eI q=mC ir c++mC ie o:=by
  have:eI q++eI [y]=(mC ir c++mC ie o)++eI [y]:=by
   rw[<-Gg,e1,e2,append_assoc]
  exact append_cancel_right this
 have hb:iF ⟨x.drop 8,c,o⟩=eI (x::q):=by
  rw[uO,hc]
  show wJou++32::(x.drop 8++10::(mC ir c++mC ie o))=_
  conv=>rhs;rw[ex]
  simp[wJou]
 unfold lp kf;rw[hb,hs,show(x::(q++[y]))=(x::q)++[y]from rfl,Gg]
 congr 1
 show _=eI [y]
 rw[uO]
 conv=>rhs;rw[ey]
 simp[iW,eI]
theorem N9(s:eA)(hs:s.length<=4194304){L:List eA}{t:eA}(h:zO 10 s=L++[t])(e:s=eI L++t):BK s=some (PJ L t):=by
 unfold BK;rw[tE s hs h,ze]
 by_cases ht:t=[]
 .subst ht
  rw[append_nil]at e;subst e;simp only[decide_true,cond_true]
  by_cases h4:L.length<4
  .rw[xG hs h4,show(decide (0<=(-1:Int))||decide ((L.length:Int)<4))=true from by rw[decide_eq_true (show(L.length:Int)<4 by omega),Bool.or_true]]
   rfl
  rw[show(decide (0<=(-1:Int))||decide ((L.length:Int)<4))=false from by rw[decide_eq_false (show ¬ (L.length:Int)<4 by omega)];rfl,cond_false]
  cases L with
  |nil=>exact absurd (show 0<4 by decide) h4
  |cons x r =>
  rw[show eV (x::r) 0=eV (x::r) ((0:Nat):Int)from rfl,fF (by simp)];simp only[getElem_cons_zero];rw[show([106,111,117,114,110,97,108,32]:eA)=wJou++[32]from rfl,Kw];cases hp:hI (wJou++[32]) x
  .rw[show PJ (x::r) []=(ZJ,8)from by unfold PJ;simp only[hp];rfl]
   rfl
  have hPJ:PJ (x::r) []=Lw (x::r) (x.drop 8) (gv ir r):=by unfold PJ;simp only[hp];rfl
  have h0:(eI r).length<=(eI (x::r)).length:=Fr (x::r) 1;have hR:BS [99,104,97,110,103,101,115] 1 (x::r)=some (F5 (x::r).length 1 (gv ir r)):=k8 ir (x::r) 1 (by decide) hs;rw[cond_true,ze,hPJ,hR,ze]
  cases h1:gv ir r with
  |none=>rfl
  |some p =>
  obtain⟨c,r1⟩:=p;obtain⟨s1,a1,a2,a3⟩:=EW h1 (by omega)
  have hd:(x::r).drop ((x::r).length-r1.length)=r1:=by
   rw[show(x::r).length-r1.length=(r.length-r1.length)+1 by simp only[length_cons];omega,drop_succ_cons,<-a3]
  have hR2:BS [111,108,100] (((x::r).length-r1.length:Nat):Int) (x::r)=some (F5 (x::r).length ((x::r).length-r1.length) (gv ie r1)):=by
   have:=k8 ie (x::r) ((x::r).length-r1.length) (by decide) hs;rw[hd]at this;exact this
  simp only[F5,eH,cond_true];rw[hR2,ze]
  show _=some (F7 (x::r) (x.drop 8) c (gv ie r1))
  cases h2:gv ie r1 with
  |none=>rfl
  |some p =>
  obtain⟨o,r2⟩:=p;obtain⟨s2,b1,b2,b3⟩:=EW h2 (by omega);have hl:=Cr (x::r)
  have hw:IntKind.i64.wrap (((x::r).length:Int)-1)=(((x::r).length-1:Nat):Int):=by
   rw[gI (by omega) (by omega)];simp only[length_cons];omega
  simp only[F5,hw,Bool.not_true,Bool.or_self,Bool.false_or]
  rcases r2 with _|⟨y,_|⟨z,r2⟩⟩
  .rw[decide_eq_false (by simp only[length_cons,length_nil];omega)]
   rfl
  .have hr:∃q,r=q++[y]:=by
    obtain⟨k,e1⟩:=yH h1;obtain⟨m,hm⟩:=yH h2;rw[e1,drop_drop]at hm;exact⟨r.take (k+m),by rw[hm,take_append_drop]⟩
   obtain⟨q,hq⟩:=hr
   have hi:(x::r).length-[y].length<(x::r).length:=by simp
   have hg:(x::r)[(x::r).length-[y].length]=y:=by
    subst hq;simp
   have hdl:(x::r).take ((x::r).length-[y].length)=(x::r).dropLast:=by
    rw[dropLast_eq_take];rfl
   have hbk:=qg hp h1 h2;rw[decide_eq_true (show(((x::r).length-[y].length:Nat):Int)=(((x::r).length-1:Nat):Int)from rfl),Bool.not_true,cond_false,fF hi,hg];rw[show([115,117,109,32]:eA)=iW++[32]from rfl,Kw]
   show _=some (EF (x::r) ⟨x.drop 8,c,o⟩ y)
   unfold EF;cases hy:hI (iW++[32]) y
   .rfl
   rw[cond_true,ze];simp only;rw[qH,ii]
   show(bif (!yx (y.drop 4))then(some (ZJ,(8:Int)))else
    eB (0<=(((x::r).length-[y].length:Nat):Int)/\(((x::r).length-[y].length:Nat):Int)<=((x::r).length:Int)) <|
    call (yN (List.take ((x::r).length-[y].length) (x::r)) [10]) fun r_19 =>
    eB ((r_19++([10]:eA)).length<=274877906944) <|
    call (Cy (r_19++([10]:eA))) fun r_21 =>
    bif !decide (r_21=y.drop 4)then some (ZJ,14)else
    call (yb ⟨x.drop 8,c,o⟩) fun r_23 =>
    bif !decide (r_23.2=0)then some (ZJ,r_23.2)else
    bif !decide (r_23.1=eI (x::r))then some (ZJ,8)else some (⟨x.drop 8,c,o⟩,0))=_
   cases hS:yx (y.drop 4)
   .rfl
   simp only[Bool.not_true,cond_false]
   have hne:(x::r).dropLast≠[]:=by subst hq;rw[show(x::(q++[y]))=(x::q)++[y]from rfl,dropLast_concat];simp
   have hsz:(eI ((x::r).dropLast)).length<=4194304:=by
    rw[<-hdl];have:=MN (x::r) ((x::r).length-[y].length);omega
   obtain⟨z,j1,j2⟩:=Ed hne hsz;rw[zg (by omega)];rw[hdl,j1,ze,j2,zg (by omega),MI,ze];cases hsum:decide (gy (eI ((x::r).dropLast))=y.drop 4)
   .rfl
   simp only[Bool.not_true,cond_false];have hbk:=hbk hy (of_decide_eq_true hsum);rw[xF _ s1 s2,ze,Az _ _ (fun _=>hbk)];cases decide ((pJ ⟨x.drop 8,c,o⟩).2=0)
   .rfl
   simp only[Bool.not_true,cond_false]
   cases decide ((pJ ⟨x.drop 8,c,o⟩).1=eI (x::r)) <;> rfl
  .rw[decide_eq_false (by simp only[length_cons]at a1 b1|-;omega)]
   rfl
 .rw[decide_eq_false ht,cond_false]
  have:(decide ((0:Int)<=(L.length:Int))||decide (((L++[t]).length:Int)<4))=true:=by rw[decide_eq_true (by omega)];rfl
  simp only[this,cond_true];unfold PJ;rw[decide_eq_false ht];rfl
theorem Q9(s:eA):Fl s=some (yx s):=by
 unfold Fl yx;simp only[eH];rw[sq qv (fun i x nx k=>by rw[uH,Bool.not_not];rfl)]
 cases s.all qv <;> rfl
noncomputable def uI(text:eA)(P:List eA)(id:eA)(c:List ae)(ec:Int)(r6:List ae×Int×List eA×Bool):Option (aj×Int) :=
 jp (S:=Int) (fun ahead_8 =>
  call (zN ([115,117,109]:eA) r6.2.2.1 r6.2.2.2) fun r_10 =>
  eB ((!(r_10.2.1||(decide (0<(r_10.2.2.length:Int)))))=true->(0<=IntKind.i64.wrap ((P.length:Int)-1)/\IntKind.i64.wrap ((P.length:Int)-1)<(P.length:Int))) <|
  callG (!((r_10.2.1||(decide (0<(r_10.2.2.length:Int))))||(!decide ((P.getD ((IntKind.i64.wrap ((P.length:Int)-1)).toNat) [])=[])))) (Fl r_10.1) false fun r_12 =>
  bif (((r_10.2.1||(decide (0<(r_10.2.2.length:Int))))||(!decide ((P.getD ((IntKind.i64.wrap ((P.length:Int)-1)).toNat) [])=[])))||(!r_12))then
   some ((aj.mk [] [] []),8)
  else
  eB (0<=ahead_8/\ahead_8<=(text.length:Int)) <|
  call (Bq (List.take ahead_8.toNat text)) fun r_15 =>
  bif !decide (r_10.1=r_15)then
   some ((aj.mk [] [] []),14)
  else
  call (sw id) fun r_16 =>
  bif !r_16 then
   some ((aj.mk [] [] []),5)
  else
  bif !decide (ec=0)then
   some ((aj.mk [] [] []),ec)
  else
  bif !decide (r6.2.1=0)then
   some ((aj.mk [] [] []),r6.2.1)
  else
  bif decide (65536<(text.length:Int))then
   some ((aj.mk [] [] []),4)
  else
  some ((aj.mk id c r6.1),0)) fun k_9 =>
 bif decide (0<(r6.2.2.1.length:Int))then
  eV r6.2.2.1 0 fun s_17 =>
  k_9 (IntKind.i64.wrap ((text.length:Int)-(s_17.length:Int)))
 else
 k_9 (text.length:Int)
theorem qh(text:eA):C4 text=call (FR text ([10]:eA)) fun r_2 =>
 eB (0<=IntKind.i64.wrap ((r_2.length:Int)-1)/\IntKind.i64.wrap ((r_2.length:Int)-1)<=(r_2.length:Int)) <|
 call (zN ([106,111,117,114,110,97,108]:eA) (List.take ((IntKind.i64.wrap ((r_2.length:Int)-1)).toNat) r_2) false) fun r_4 =>
 call (zo ([99,104,97,110,103,101,115]:eA) r_4.2.2 r_4.2.1) fun r_5 =>
 call (zo ([111,108,100]:eA) r_5.2.2.1 r_5.2.2.2) fun r_6 =>
 uI text r_2 r_4.1 r_5.1 r_5.2.1 r_6:=rfl
theorem LK(text:eA)(P:List eA)(id:eA)(c:List ae)(ec:Int)(a:List ae)(e:Int)(r:List eA):uI text P id c ec (a,e,r,true)=some (ZJ,8):=by
 unfold uI;simp only[eH,nP,ze]
 have:∀n:Int,(eB ((!(true||(decide (0<(r.length:Int)))))=true->(0<=IntKind.i64.wrap ((P.length:Int)-1)/\IntKind.i64.wrap ((P.length:Int)-1)<(P.length:Int))) (some (ZJ,n)):Option (aj×Int))=some (ZJ,n):=fun n=>zg (by intro q;cases q) _
 cases hd:decide (0<(r.length:Int))
 .exact this 8
 .rw[cond_true]
  have hl:0<r.length:=by have:=of_decide_eq_true hd;omega
  rw[show eV r 0=eV r ((0:Nat):Int)from rfl,fF hl];rw[hd]at this;exact this 8
theorem rM(text:eA)(P l:List eA)(id:eA):(call (zo ([99,104,97,110,103,101,115]:eA) l true) fun r_5 =>
 call (zo ([111,108,100]:eA) r_5.2.2.1 r_5.2.2.2) fun r_6=>uI text P id r_5.1 r_5.2.1 r_6)=some (ZJ,8):=by
 obtain⟨a,e,r,h⟩:=MO [99,104,97,110,103,101,115] l;rw[h,ze];obtain⟨a',e',r',h'⟩:=MO [111,108,100] r
 show(call (zo [111,108,100] r true) fun r_6=>uI text P id a e r_6)=_
 rw[h',ze,LK]
theorem AZ(text:eA)(P l:List eA)(id:eA)(c:List ae)(ec:Int):(call (zo ([111,108,100]:eA) l true) fun r_6=>uI text P id c ec r_6)=some (ZJ,8):=by
 obtain⟨a',e',r',h'⟩:=MO [111,108,100] l;rw[h',ze,LK]
theorem A1(s:eA)(hs:s.length<=4194304){L:List eA}{t:eA}(h:zO 10 s=L++[t])(e:s=eI L++t)(h10:∀x∈L,(10:UInt8)∉x)
  (hT:∀(id:eA) (c o:List ae) (r2:List eA),SmL c->SmL o->(∃x r r1,L=x::r/\id=x.drop 8/\hI (wJou++[32]) x=true/\gv ir r=some (c,r1)/\gv ie r1=some (o,r2)) ->
   uI s (L.map nl++[t]) id (bif !decide (fb c=0)then []else c) (fb c) (bif !decide (fb o=0)then []else o,fb o,r2.map nl,false)=some (PJ L t)) :
  C4 s=some (PJ L t):=by
 have hsz:(eI L).length<=4194304:=by rw[e,length_append]at hs;omega
 have hl:=Cr L;rw[qh,QJ s 10 (by omega),ze,h,rR]
 show(eB (0<=IntKind.i64.wrap (((L.map nl++[t]).length:Int)-1)/\IntKind.i64.wrap (((L.map nl++[t]).length:Int)-1)<=((L.map nl++[t]).length:Int)) <|
  call (zN wJou (List.take ((IntKind.i64.wrap (((L.map nl++[t]).length:Int)-1)).toNat) (L.map nl++[t])) false) fun r_4 =>
  call (zo ir r_4.2.2 r_4.2.1) fun r_5 =>
  call (zo ie r_5.2.2.1 r_5.2.2.2) fun r_6 =>
  uI s (L.map nl++[t]) r_4.1 r_5.1 r_5.2.1 r_6)=_
 have hw:IntKind.i64.wrap (((L.map nl++[t]).length:Int)-1)=(L.length:Int):=by
  rw[length_append,length_map,length_singleton,gI (by omega) (by omega)];omega
 rw[zg (by rw[hw];simp;omega),hw,Int.toNat_natCast,take_left' (by simp)]
 cases L with
 |nil =>
  rw[map_nil,LV,ze];refine(rM s _ _ _).trans ?_;unfold PJ
  cases decide (t=[]) <;> rfl
 |cons x r =>
  have hx:=Cs (mem_cons_self (a:=x) (l:=r));rw[map_cons,L7 wJou x _ (by decide) (by decide) (by omega),ze];cases hp:hI (wJou++[32]) x
  .refine(rM s _ _ _).trans ?_
   unfold PJ;simp only[hp]
   cases decide (t=[]) <;> rfl
  have h0:(eI r).length<=(eI (x::r)).length:=Fr (x::r) 1;have hc:=OR ir r (by decide) (by decide) (fun y hy=>h10 y (mem_cons_of_mem _ hy)) (by omega)
  have hPJ:PJ (x::r) t=bif !decide (t=[])then(ZJ,8)else Lw (x::r) (x.drop 8) (gv ir r):=by unfold PJ;simp only[hp];rfl
  simp only[Bool.not_true]
  cases h1:gv ir r with
  |none =>
   rw[h1]at hc hPJ;obtain⟨a,e1,r1,hc⟩:=hc;rw[hc,ze,hPJ];refine(AZ s _ _ _ _ _).trans ?_
   cases decide (t=[]) <;> rfl
  |some q =>
   obtain⟨c,r1⟩:=q;rw[h1]at hc hPJ;obtain⟨s1,a1,a2,a3⟩:=EW h1 (by omega);obtain⟨k,hk⟩:=yH h1;rw[show zo ir (List.map nl r) false=_ from hc,ze];have hc2:=OR ie r1 (by decide) (by decide) (fun y hy=>h10 y (mem_cons_of_mem _ (mem_of_mem_drop (hk ▸ hy)))) (by omega)
   cases h2:gv ie r1 with
   |none =>
    rw[h2]at hc2;obtain⟨a,e1,r2,hc2⟩:=hc2;simp only;rw[hc2,ze,LK,hPJ]
    show _=some (bif !decide (t=[])then(ZJ,8)else F7 (x::r) (x.drop 8) c (gv ie r1))
    rw[h2]
    cases decide (t=[]) <;> rfl
   |some q =>
    obtain⟨o,r2⟩:=q;rw[h2]at hc2;obtain⟨s2,b1,b2,b3⟩:=EW h2 (by omega);simp only;rw[show zo ie (List.map nl r1) false=_ from hc2,ze];exact hT _ c o r2 s1 s2 ⟨x,r,r1,rfl,rfl,hp,h1,h2⟩
theorem sH(s:eA)(hs:s.length<=4194304){L:List eA}{t:eA}(e:s=eI L++t)(h10:∀x∈L,(10:UInt8)∉x)
  (id:eA) (c o:List ae) (r2:List eA) (s1:SmL c) (s2:SmL o) (hex:∃x r r1,L=x::r/\id=x.drop 8/\hI (wJou++[32]) x=true/\gv ir r=some (c,r1)/\gv ie r1=some (o,r2)) :
   uI s (L.map nl++[t]) id (bif !decide (fb c=0)then []else c) (fb c) (bif !decide (fb o=0)then []else o,fb o,r2.map nl,false)=some (PJ L t):=by
 obtain⟨x,r,r1,rfl,rfl,hp,h1,h2⟩:=hex
 have hsz:(eI (x::r)).length<=4194304:=by rw[e,length_append]at hs;omega
 have hl:=Cr (x::r)
 have hPJ:PJ (x::r) t=bif !decide (t=[])then(ZJ,8)else F7 (x::r) (x.drop 8) c (some (o,r2)):=by
  unfold PJ;simp only[hp]
  show(bif !decide (t=[])then(ZJ,8)else Lw (x::r) (x.drop 8) (gv ir r))=_
  rw[h1]
  show(bif !decide (t=[])then(ZJ,8)else F7 (x::r) (x.drop 8) c (gv ie r1))=_
  rw[h2]
 rw[hPJ]
 have hw:IntKind.i64.wrap ((((x::r).map nl++[t]).length:Int)-1)=((x::r).length:Int):=by
  rw[length_append,length_map,length_singleton,gI (by omega) (by omega)];omega
 have hgd:((x::r).map nl++[t]).getD (x::r).length []=t:=by
  rw[getD_eq_getElem?_getD,getElem?_append_right (by simp)];simp
 rcases r2 with _|⟨y,z⟩
 .unfold uI
  simp only[eH,map_nil];rw[show decide (0<((([]:List eA).length:Nat):Int))=false from rfl,cond_false,LV,ze];simp only;rw[zg (by intro q;cases q)];refine Eq.trans (b:=some (ZJ,8)) rfl ?_
  cases decide (t=[]) <;> rfl
 .unfold uI
  simp only[eH,map_cons]
  have hym:y∈x::r:=by
   obtain⟨k,e1⟩:=yH h1;obtain⟨m,hm⟩:=yH h2;rw[e1,drop_drop]at hm;exact mem_cons_of_mem _ (mem_of_mem_drop (hm ▸ mem_cons_self ..))
  have hyl:=Cs hym;rw[show decide (0<(((nl y::z.map nl).length:Nat):Int))=true from decide_eq_true (by simp),cond_true,show eV (nl y::z.map nl) 0=eV (nl y::z.map nl) ((0:Nat):Int)from rfl,fF (by simp)];simp only[getElem_cons_zero];rw[L7 [115,117,109] y _ (by decide) (by decide) (by omega),ze];have hw':IntKind.i64.wrap (((nl x::List.map nl r++[t]).length:Int)-1)=((x::r).length:Int):=hw;have hgd':(nl x::List.map nl r++[t]).getD (x::r).length []=t:=hgd;simp only[hw',Int.toNat_natCast,hgd'];rw[zg (by intro _;simp;omega),Q9,ii]
  rcases z with _|⟨y',z⟩
  .cases ht:decide (t=[])
   .simp only[Bool.not_false,Bool.or_true,Bool.true_or,cond_true]
    rfl
   .cases hpy:hI ([115,117,109]++[32]) y
    .simp only[Bool.not_false,Bool.or_true,Bool.true_or,cond_true,Bool.not_true,cond_false]
     have hpy:hI (iW++[32]) y=false:=hpy
     show _=some (EF (x::r) ⟨x.drop 8,c,o⟩ y)
     unfold EF;rw[hpy];rfl
    .have hr:∃q,r=q++[y]:=by
      obtain⟨k,e1⟩:=yH h1;obtain⟨m,hm⟩:=yH h2;rw[e1,drop_drop]at hm;exact⟨r.take (k+m),by rw[hm,take_append_drop]⟩
     obtain⟨q,hq⟩:=hr;obtain rfl:=of_decide_eq_true ht;rw[append_nil]at e
     have hdl:(x::r).dropLast=x::q:=by
      subst hq;rw[show(x::(q++[y]))=(x::q)++[y]from rfl,dropLast_concat]
     have hcat:s=eI ((x::r).dropLast)++nl y:=by
      rw[e,hdl,hq,show(x::(q++[y]))=(x::q)++[y]from rfl,Gg];simp[eI]
     have hA:IntKind.i64.wrap ((s.length:Int)-((nl y).length:Int))=((eI ((x::r).dropLast)).length:Int):=by
      have:=congrArg List.length hcat;rw[length_append]at this
      rw[gI (by omega) (by omega)];omega
     have hA2:(eI ((x::r).dropLast)).length<=s.length:=by
      have:=congrArg List.length hcat;rw[length_append]at this;omega
     have hpy:hI (iW++[32]) y=true:=hpy;simp only[hA]
     show(bif !yx (y.drop 4)then some (ZJ,(8:Int))else
      eB (0<=((eI ((x::r).dropLast)).length:Int)/\((eI ((x::r).dropLast)).length:Int)<=(s.length:Int)) <|
      call (Bq (List.take (eI ((x::r).dropLast)).length s)) fun r_15 =>
      bif !decide (y.drop 4=r_15)then some (ZJ,14)else
      call (sw (x.drop 8)) fun r_16 =>
      bif !r_16 then some (ZJ,5)else
      bif !decide (fb c=0)then some (ZJ,fb c)else
      bif !decide (fb o=0)then some (ZJ,fb o)else
      bif decide (65536<(s.length:Int))then some (ZJ,4)else
      some (aj.mk (x.drop 8) (bif !decide (fb c=0)then []else c) (bif !decide (fb o=0)then []else o),0))=some (EF (x::r) ⟨x.drop 8,c,o⟩ y)
     unfold EF;rw[hpy];cases yx (y.drop 4)
     .rfl
     simp only[Bool.not_true,cond_false,Bool.or_self]
     have htk:List.take (eI ((x::r).dropLast)).length s=eI ((x::r).dropLast):=by rw[hcat,take_left]
     rw[zg (by omega),htk,PF,ze,CW,ze]
     have hcm:decide (gy (eI ((x::r).dropLast))=y.drop 4)=decide (y.drop 4=gy (eI ((x::r).dropLast))):=by
      rw[Bool.eq_iff_iff,decide_eq_true_eq,decide_eq_true_eq];exact eq_comm
     rw[hcm];cases decide (y.drop 4=gy (eI ((x::r).dropLast)))
     .rfl
     simp only[Bool.not_true,cond_false];unfold AA eJ;cases gj (x.drop 8)
     .rfl
     simp only[Bool.not_true,cond_false];rw[<-e];cases hc:decide (fb c=0)
     .simp only[Bool.not_false,cond_true,cond_false,hc]
     simp only[Bool.not_true,cond_true,cond_false];cases ho:decide (fb o=0)
     .simp only[Bool.not_false,cond_true]
     simp only[Bool.not_true,cond_false]
     cases decide (65536<(s.length:Int)) <;> rfl
  .rw[show decide (0<((List.map nl (y'::z)).length:Int))=true from decide_eq_true (by simp)]
   simp only[Bool.or_true,Bool.true_or,cond_true]
   cases decide (t=[]) <;> rfl
theorem qi(s:eA)(hs:s.length<=4194304):∃L t,zO 10 s=L++[t]/\s=eI L++t/\(∀x∈L,(10:UInt8)∉x)/\(10:UInt8)∉t/\C4 s=some (PJ L t)/\BK s=some (PJ L t):=by
 obtain⟨L,t,h1,h2,h3,h4⟩:=DI s.length s (Nat.le_refl _);exact⟨L,t,h1,h2,h3,h4,A1 s hs h1 h2 h3 fun id c o r2 s1 s2 hex=>sH s hs h2 h3 id c o r2 s1 s2 hex,N9 s hs h1 h2⟩
structure Te(j:aj):Prop where
 name:gj j.v=true
 e:eJ j=0
 len:(lp j).length<=65536
theorem IX{j:aj}(h:(pJ j).2=0):Te j/\pJ j=(lp j,0):=by
 unfold pJ at h|-;cases hn:gj j.v
 .rw[hn]at h;cases h
 rw[hn]at h;simp only[Bool.not_true,cond_false]at h|-;cases he:decide (eJ j=0)
 .rw[he]at h
  exact absurd h (of_decide_eq_false he)
 rw[he]at h;simp only[Bool.not_true,cond_false]at h|-;cases hd:decide (65536<((lp j).length:Int))
 .exact⟨⟨hn,of_decide_eq_true he,by have:=of_decide_eq_false hd;omega⟩,rfl⟩
 .rw[hd]at h;cases h
theorem AD{j:aj}(h:eJ j=0):fb j.y=0/\fb j.z=0:=by
 unfold eJ at h;cases e1:decide (fb j.y=0)
 .rw[e1,cond_false]at h;exact absurd h (of_decide_eq_false e1)
 .rw[e1,cond_true]at h;exact⟨of_decide_eq_true e1,h⟩
theorem mY:∀a b:eA,lh a b=decide (a<b)
 |[],[]=>by simp[lh,Op.bytesLess]
 |_::_,[]=>by simp[lh,Op.bytesLess]
 |[],_::_=>by simp[lh,Op.bytesLess]
 |a::x,b::y=>by
  have ih:=mY x y;unfold lh at *;rw[Op.bytesLess,ih,Bool.eq_iff_iff];simp[cons_lt_cons_iff]
theorem Bk{a b c:eA}(h1:a<b)(h2:b<c):a<c:=List.lt_trans h1 h2
theorem EQ(a:eA):¬ a<a:=List.lt_irrefl a
theorem A9(a b:eA):a<b∨a=b∨b<a:=by
 by_cases h1:a<b
 .exact .inl h1
 .by_cases h2:b<a
  .exact .inr (.inr h2)
  .exact .inr (.inl (List.le_antisymm (List.not_lt.1 h2) (List.not_lt.1 h1)))
theorem xZ{a b:eA}(h1:a<b):¬ b<a:=fun h2=>EQ a (Bk h1 h2)
theorem se{a b:eA}(h1:a<b):a≠b:=fun e=>EQ b (e ▸ h1)
theorem E8:∀a b:eA,(iQ a b<0↔a<b)/\(iQ a b=0↔a=b)
 |[],[]=>by simp[iQ,Lib.compareBytes]
 |_::_,[]=>by simp[iQ,Lib.compareBytes]
 |[],_::_=>by simp[iQ,Lib.compareBytes]
 |a::x,b::y=>by
  have ih:=E8 x y;unfold iQ at *;rw[Lib.compareBytes,cons_lt_cons_iff]
  by_cases h:a<b
  .have:a≠b:=fun e=>by subst e;exact UInt8.lt_irrefl _ h
   simp[h,this]
  .by_cases h2:b<a
   .have:a≠b:=fun e=>by subst e;exact UInt8.lt_irrefl _ h2
    simp[h,h2,this]
   .have:a=b:=UInt8.le_antisymm (UInt8.not_lt.1 h2) (UInt8.not_lt.1 h)
    subst this
    simpa [h]using ih
theorem Ct(a b:eA):decide (iQ a b<0)=decide (a<b):=decide_eq_decide.2 (E8 a b).1
theorem mh(a b:eA):0<iQ a b↔b<a:=by
 have h:=E8 a b
 rcases A9 a b with h1|h1|h1
 .have:=h.1.2 h1
  exact⟨fun h'=>by omega,fun h'=>absurd h' (xZ h1)⟩
 .have:=h.2.2 h1
  exact⟨fun h'=>by omega,fun h'=>absurd h1 (Ne.symm (se h'))⟩
 .refine⟨fun _=>h1,fun _=>?_⟩
  have h2:¬ iQ a b<0:=fun h'=>xZ h1 (h.1.1 h')
  have h3:¬ iQ a b=0:=fun h'=>(se h1) (h.2.1 h').symm
  omega
theorem y4(a b:eA)(hb:b≠[]):a<a++b:=by
 induction a with
 |nil=>cases b with
  |nil=>exact absurd rfl hb
  |cons x b=>simp
 |cons x a ih=>rw[cons_append,cons_lt_cons_iff];exact .inr ⟨rfl,ih⟩
section
variable {K V:Type} [DecidableEq K]
theorem xy{m:List (K×V)}{p:K×V}{k:K}(h:¬ p.1=k):zp (p::m) k=zp m k:=by rw[zp,decide_eq_false h];rfl
theorem xz{m:List (K×V)}{p:K×V}{k:K}(h:p.1=k):zp (p::m) k=some p.2:=by rw[zp,decide_eq_true h];rfl
theorem rN{m:List (K×V)}{p:K×V}{k:K}{v:V}(h:¬ p.1=k):eG (p::m) k v=p::eG m k v:=by rw[eG,decide_eq_false h];rfl
theorem rO{m:List (K×V)}{p:K×V}{k:K}{v:V}(h:p.1=k):eG (p::m) k v=(k,v)::m:=by rw[eG,decide_eq_true h];rfl
theorem ut:∀(m:List (K×V)) (k:K) (v:V) (k':K),zp (eG m k v) k'=if k=k' then some v else zp m k'
 |[],k,v,k'=>by
  simp only[eG,zp]
  by_cases h:k=k' <;> simp[h]
 |p::m,k,v,k'=>by
  unfold eG
  by_cases h:p.1=k
  .rw[decide_eq_true h,cond_true]
   simp only[zp]
   by_cases h':k=k'
   .simp[h']
   .have:¬ p.1=k':=fun e=>h' (h ▸ e)
    simp[h',this]
  .rw[decide_eq_false h,cond_false]
   simp only[zp];rw[ut m k v k']
   by_cases h':k=k'
   .have:¬ p.1=k':=fun e=>h (e.trans h'.symm)
    simp[h',this]
   .simp only[if_neg h']
theorem alook_none:∀{m:List (K×V)} {k:K},zp m k=none↔k∉m.map (·.1)
 |[],k=>by simp[zp]
 |p::m,k=>by
  simp only[zp,map_cons,mem_cons]
  by_cases h:p.1=k
  .simp[h]
  .rw[decide_eq_false h,cond_false,alook_none]
   simp[Ne.symm h]
theorem mem_keys{m:List (K×V)}{k:K}:k∈m.map (·.1)↔(zp m k).isSome=true:=by
 have:=@alook_none K V _ m k
 cases h:zp m k with
 |none=>simpa using this.1 h
 |some v =>
  simp only[Option.isSome_some,iff_true]
  refine Classical.byContradiction fun hc=>?_
  rw[this.2 hc]at h;cases h
theorem J4:∀{m:List (K×V)} {k:K} {v:V},zp m k=some v->(k,v)∈m
 |[],k,v,h=>by cases h
 |p::m,k,v,h=>by
  simp only[zp]at h
  by_cases e:p.1=k
  .rw[decide_eq_true e,cond_true]at h
   cases h;subst e;exact mem_cons_self ..
  .rw[decide_eq_false e,cond_false]at h
   exact mem_cons_of_mem _ (J4 h)
theorem kC:∀{m:List (K×V)},(m.map (·.1)).Nodup->∀{p:K×V},p∈m->zp m p.1=some p.2
 |q::m,hn,p,hp=>by
  have hn':=nodup_cons.1 hn;simp only[zp]
  rcases mem_cons.1 hp with rfl|hp
  .simp
  .have:¬ q.1=p.1:=fun e=>hn'.1 (by show q.1∈_;rw[e];exact mem_map_of_mem hp)
   rw[decide_eq_false this,cond_false];exact kC hn'.2 hp
theorem G3:∀(m:List (K×V)) (k:K) (v:V),(eG m k v).map (·.1)=m.map (·.1)++if (zp m k).isSome then []else [k]
 |[],k,v=>by simp[eG,zp]
 |p::m,k,v=>by
  by_cases h:p.1=k
  .rw[rO h,xz h];simp[h]
  .rw[rN h,xy h,map_cons,G3 m k v];rfl
theorem yL{m:List (K×V)}(h:(m.map (·.1)).Nodup)(k:K)(v:V):((eG m k v).map (·.1)).Nodup:=by
 rw[G3];split
 .simpa using h
 .rename_i hs
  have:k∉m.map (·.1):=fun hk=>hs (mem_keys.1 hk)
  rw[nodup_append];exact⟨h,by simp,fun a ha b hb e=>by simp at hb;subst hb;subst e;exact this ha⟩
theorem yF(m:List (K×V))(k:K)(v:V):(eG m k v).length=m.length+if (zp m k).isSome then 0 else 1:=by
 have:=congrArg List.length (G3 m k v);simp only[length_map,length_append]at this;rw[this]
 split <;> simp
theorem k6:∀(m:List (K×V)) (k:K),((gg m k).map (·.1)).Sublist (m.map (·.1))
 |[],k=>by simp[gg]
 |p::m,k=>by
  simp only[gg]
  by_cases h:p.1=k
  .simp[h]
  .rw[decide_eq_false h,cond_false]
   exact(k6 m k).cons_cons _
theorem CM{m:List (K×V)}(h:(m.map (·.1)).Nodup)(k:K):((gg m k).map (·.1)).Nodup:=h.sublist (k6 m k)
theorem Bm:∀{m:List (K×V)},(m.map (·.1)).Nodup->∀(k k':K),zp (gg m k) k'=if k=k' then none else zp m k'
 |[],_,k,k'=>by simp[gg,zp]
 |p::m,hn,k,k'=>by
  have hn':=nodup_cons.1 hn;simp only[gg]
  by_cases h:p.1=k
  .rw[decide_eq_true h,cond_true]
   by_cases h':k=k'
   .rw[if_pos h',alook_none.2]
    rw[<-h',<-h];exact hn'.1
   .rw[if_neg h']
    have:¬ p.1=k':=fun e=>h' (h ▸ e)
    simp only[zp];rw[decide_eq_false this,cond_false]
  .rw[decide_eq_false h,cond_false]
   simp only[zp];rw[Bm hn'.2]
   by_cases h':k=k'
   .have:¬ p.1=k':=fun e=>h (e.trans h'.symm)
    simp[h',this]
   .simp only[if_neg h']
end
section
variable {α S β:Type}
theorem JO{f:α->S->(S->Option β)->(S->Option β)->Option β}{k:S->Option β}{z:β}(inv:List α->S->Prop)
  (h0:∀s,inv [] s->k s=some z) (h1:∀r s nx x j,inv r s->r[j]?=some x->(∀s',inv (r.eraseIdx j) s'->nx s'=some z)->f x s nx k=some z) :
  ∀(n:Nat) (r:List α) (s:S),r.length=n->inv r s->forM f n r s k=some z
 |0,[],s,_,h=>h0 s h
 |n+1,r,s,hn,h=>by
  unfold Go.Vc.forM
  refine M2 ⟨0,by omega⟩ fun j hj=>?_
  rw[getElem?_eq_getElem hj]
  exact h1 r s _ r[j] j h (getElem?_eq_getElem hj) fun s' hs=>JO inv h0 h1 n (r.eraseIdx j) s' (by rw[length_eraseIdx,if_pos hj];omega) hs
theorem KD:∀{r:List α} {j:Nat} {x:α},r[j]?=some x->r.Perm (x::r.eraseIdx j)
 |[],_,_,h=>by cases h
 |y::r,0,x,h=>by
  simp at h;subst h;simp
 |y::r,j+1,x,h=>by
  simp only[getElem?_cons_succ]at h;rw[eraseIdx_cons_succ];exact((KD h).cons y).trans (.swap x y _)
end
theorem Mq(a b c:eA)(h1:decide (a<=b)=true)(h2:decide (b<=c)=true):decide (a<=c)=true:=by
 simp only[decide_eq_true_eq]at *;exact List.le_trans h1 h2
theorem Mo(a b:eA):(decide (a<=b)||decide (b<=a))=true:=by
 simp only[Bool.or_eq_true,decide_eq_true_eq];exact List.le_total a b
theorem MF(l:List eA):(sortS l).Perm l:=mergeSort_perm l _
theorem QI{l l':List eA}(h:l.Perm l'):sortS l=sortS l':=by
 unfold sortS;refine List.Perm.eq_of_pairwise (le:=fun a b=>decide (a<=b)=true) (fun a b _ _ h1 h2=>?_) (pairwise_mergeSort Mq Mo l) (pairwise_mergeSort Mq Mo l') (((mergeSort_perm l _).trans h).trans (mergeSort_perm l' _).symm);simp only[decide_eq_true_eq]at h1 h2;exact List.le_antisymm h1 h2
theorem vy{l:List eA}(h:l.Nodup):(sortS l).Pairwise (·<·):=by
 have h1:(sortS l).Pairwise fun a b=>decide (a<=b)=true:=pairwise_mergeSort Mq Mo l
 have h2:(sortS l).Pairwise (·≠·):=(MF l).symm.nodup h;refine List.Pairwise.imp₂ (fun a b h3 h4=>?_) h1 h2;simp only[decide_eq_true_eq]at h3
 rcases A9 a b with h|h|h
 .exact h
 .exact absurd h h4
 .exact absurd h3 (List.not_le.2 h)
section
variable {V A:Type}
def jz(m:List (eA×V)):List eA:=sortS (m.map (·.1))
theorem mem_keysM{m:List (eA×V)}{k:eA}:k∈jz m↔(zp m k).isSome=true:=by
 unfold jz;rw[(MF _).mem_iff,mem_keys]
theorem kF(m:List (eA×V)):(jz m).length=m.length:=by
 unfold jz;rw[(MF _).length_eq,length_map]
theorem xY(m:List (eA×V))(h:m.length<=274877906944) :
  forM (fun(e:eA×V) (o:List eA) nx _=>eB ((o++[e.1]).length<=274877906944) (nx (o++[e.1]))) m.length m [] (fun o=>some (sortS o))=some (jz m):=by
 refine JO (fun r o=>(o++r.map (·.1)).Perm (m.map (·.1))) (fun o ho=>?_) (fun r o nx x j ho hx hnx=>?_) _ _ _ rfl (by simp)
 .simp only[map_nil,append_nil]at ho
  unfold jz;rw[QI ho]
 .have hp:=(KD hx).map (·.1)
  have hq:((o++[x.1])++(r.eraseIdx j).map (·.1)).Perm (m.map (·.1)):=by
   refine List.Perm.trans ?_ ho;rw[append_assoc];exact(List.Perm.append_left o hp).symm
  have hl:=hq.length_eq;simp only[length_append,length_map]at hl;rw[zg (by simp only[length_append];omega)];exact hnx _ hq
def eW(key:A->eA)(l:List A):Prop:=l.Pairwise fun a b=>key a<key b
def lk(key:A->eA)(l:List A)(k:eA):Option A:=l.find? fun x=>decide (key x=k)
variable {key:A->eA}
theorem j6{l:List A}{k:eA}{x:A}(h:lk key l k=some x):x∈l/\key x=k:=by
 unfold lk at h;exact⟨mem_of_find?_eq_some h,by simpa using find?_some h⟩
theorem qW{l:List A}(hs:eW key l){x y:A}(hx:x∈l)(hy:y∈l)(h:key x=key y):x=y:=by
 induction l with
 |nil=>cases hx
 |cons z l ih =>
  have hs':=pairwise_cons.1 hs
  rcases mem_cons.1 hx with e|hx' <;> rcases mem_cons.1 hy with e'|hy'
  .rw[e,e']
  .subst e;exact absurd h (se (hs'.1 y hy'))
  .subst e';exact absurd h.symm (se (hs'.1 x hx'))
  .exact ih hs'.2 hx' hy'
theorem sc{l:List A}(hs:eW key l){x:A}(hx:x∈l):lk key l (key x)=some x:=by
 cases h:lk key l (key x)with
 |none =>
  unfold lk at h;have:=find?_eq_none.1 h x hx;simp at this
 |some y =>
  obtain⟨h1,h2⟩:=j6 h;rw[qW hs h1 hx h2]
theorem lk_none{l:List A}{k:eA}:lk key l k=none↔∀x∈l,key x≠k:=by
 unfold lk;simp
theorem Fc{l:List A}(hs:eW key l):l.Nodup:=List.Pairwise.imp (R:=fun a b=>key a<key b) (S:=fun a b=>a≠b) (fun h e=>by subst e;exact EQ _ h) hs
theorem JG{l l':List A}(h:eW key l)(h':eW key l')(he:∀k,lk key l k=lk key l' k):l=l':=by
 have hm:∀x,x∈l↔x∈l':=fun x=>⟨fun hx=>(j6 ((he _).symm.trans (sc h hx))).1,fun hx=>(j6 ((he _).trans (sc h' hx))).1⟩
 exact List.Perm.eq_of_pairwise (fun a b _ _ h1 h2=>absurd h2 (xZ h1)) h h' ((perm_ext_iff_of_nodup (Fc h) (Fc h')).2 hm)
def iy(g:eA->V->A)(d:V)(m:List (eA×V)):List A:=(jz m).map fun k=>g k ((zp m k).getD d)
theorem ES(g:eA->V->A)(d:V)(m:List (eA×V)):(iy g d m).length=m.length:=by
 unfold iy;rw[length_map,kF]
theorem Cu{g:eA->V->A}{d:V}{m:List (eA×V)}(hn:(m.map (·.1)).Nodup)(hk:∀k v,zp m k=some v->key (g k v)=k):eW key (iy g d m):=by
 unfold eW iy;rw[pairwise_map]
 refine(vy hn).imp_of_mem fun {a b} ha hb h=>?_
 have ha':=mem_keysM.1 (show a∈jz m from ha);have hb':=mem_keysM.1 (show b∈jz m from hb);obtain⟨v,hv⟩:=Option.isSome_iff_exists.1 ha';obtain⟨w,hw⟩:=Option.isSome_iff_exists.1 hb';rw[hv,hw,Option.getD_some,Option.getD_some,hk _ _ hv,hk _ _ hw];exact h
theorem uK{g:eA->V->A}{d:V}{m:List (eA×V)}(hk:∀k v,zp m k=some v->key (g k v)=k)(k:eA):lk key (iy g d m) k=(zp m k).map (g k):=by
 have h1:∀k'∈jz m,∃v,zp m k'=some v/\key (g k' ((zp m k').getD d))=k':=fun k' h=>by
  obtain⟨v,hv⟩:=Option.isSome_iff_exists.1 (mem_keysM.1 h);exact⟨v,hv,by rw[hv,Option.getD_some,hk _ _ hv]⟩
 cases h:zp m k with
 |none =>
  rw[Option.map_none,lk_none];intro x hx;obtain⟨k',hk',rfl⟩:=mem_map.1 hx;obtain⟨v,hv,he⟩:=h1 k' hk';rw[he];rintro rfl
  rw[h]at hv;cases hv
 |some v =>
  have hm:k∈jz m:=mem_keysM.2 (by rw[h];rfl)
  cases hl:lk key (iy g d m) k with
  |none =>
   have:=lk_none.1 hl _ (mem_map_of_mem hm);obtain⟨v',hv,he⟩:=h1 k hm;exact absurd he this
  |some x =>
   obtain⟨h2,h3⟩:=j6 hl;obtain⟨k',hk',rfl⟩:=mem_map.1 h2;obtain⟨v',hv,he⟩:=h1 k' hk';rw[he]at h3;subst h3
   rw[h];rfl
def gG(key:A->eA)(x:A)(l:List A):List A:=l.filter (fun y=>decide (key y<key x))++x::l.filter fun y=>decide (key x<key y)
def gZ(key:A->eA)(k:eA)(l:List A):List A:=l.filter fun y=>!decide (key y=k)
theorem mem_ins{l:List A}{x y:A}:y∈gG key x l↔y=x∨(y∈l/\key y≠key x):=by
 unfold gG;simp only[mem_append,mem_filter,decide_eq_true_eq,mem_cons];constructor
 .rintro(⟨h1,h2⟩|rfl|⟨h1,h2⟩)
  .exact .inr ⟨h1,se h2⟩
  .exact .inl rfl
  .exact .inr ⟨h1,Ne.symm (se h2)⟩
 .rintro(rfl|⟨h1,h2⟩)
  .exact .inr (.inl rfl)
  .rcases A9 (key y) (key x)with h|h|h
   .exact .inl ⟨h1,h⟩
   .exact absurd h h2
   .exact .inr (.inr ⟨h1,h⟩)
theorem mem_del{l:List A}{k:eA}{y:A}:y∈gZ key k l↔y∈l/\key y≠k:=by
 unfold gZ;simp
theorem yC{l:List A}(hs:eW key l)(x:A):eW key (gG key x l):=by
 unfold eW gG;rw[pairwise_append,pairwise_cons];refine⟨hs.filter _,⟨fun y hy=>by simpa using (mem_filter.1 hy).2,hs.filter _⟩,fun a ha b hb=>?_⟩
 have h1:key a<key x:=by simpa using (mem_filter.1 ha).2
 rcases mem_cons.1 hb with rfl|hb
 .exact h1
 .exact Bk h1 (by simpa using (mem_filter.1 hb).2)
theorem yB{l:List A}(hs:eW key l)(k:eA):eW key (gZ key k l):=hs.filter _
theorem wd{l:List A}{k:eA}{o:Option A}(hs:eW key l)(h:∀x,o=some x↔x∈l/\key x=k):lk key l k=o:=by
 cases hl:lk key l k with
 |none =>
  cases ho:o with
  |none=>rfl
  |some x =>
   obtain⟨h1,h2⟩:=(h x).1 ho;exact absurd h2 (lk_none.1 hl x h1)
 |some x=>exact((h x).2 (j6 hl)).symm
theorem wc{l:List A}(hs:eW key l){k:eA}{x:A}:lk key l k=some x↔x∈l/\key x=k:=⟨j6,fun h=>by obtain⟨h1,rfl⟩:=h;exact sc hs h1⟩
theorem qp{l:List A}(hs:eW key l)(x:A)(k:eA):lk key (gG key x l) k=if key x=k then some x else lk key l k:=by
 refine wd (yC hs x) fun y=>?_
 rw[mem_ins];split
 .rename_i h
  subst h;constructor
  .intro h;cases h;exact⟨.inl rfl,rfl⟩
  .rintro⟨rfl|⟨h1,h2⟩,h3⟩
   .rfl
   .exact absurd h3 h2
 .rename_i h
  rw[wc hs];constructor
  .rintro⟨h1,rfl⟩;exact⟨.inr ⟨h1,fun e=>h e.symm⟩,rfl⟩
  .rintro⟨rfl|⟨h1,h2⟩,h3⟩
   .exact absurd h3 h
   .exact⟨h1,h3⟩
theorem qq{l:List A}(hs:eW key l)(k k':eA):lk key (gZ key k l) k'=if k=k' then none else lk key l k':=by
 refine wd (yB hs k) fun y=>?_
 rw[mem_del];split
 .rename_i h
  subst h;simp only[reduceCtorEq,false_iff];rintro⟨⟨_,h1⟩,h2⟩;exact h1 h2
 .rename_i h
  rw[wc hs];constructor
  .rintro⟨h1,rfl⟩;exact⟨⟨h1,fun e=>h e.symm⟩,rfl⟩
  .rintro⟨⟨h1,_⟩,h2⟩;exact⟨h1,h2⟩
theorem Gb{l:List A}(hs:eW key l)(k:eA):l.length=(gZ key k l).length+if (lk key l k).isSome then 1 else 0:=by
 induction l with
 |nil=>simp[gZ,lk]
 |cons x l ih =>
  have hs':=pairwise_cons.1 hs;have ih:=ih hs'.2;unfold gZ lk at *
  by_cases h:key x=k
  .have h0:∀y∈l,key y≠k:=fun y hy e=>se (hs'.1 y hy) (h.trans e.symm)
   have h1:l.find? (fun x=>decide (key x=k))=none:=by simpa using h0
   rw[h1]at ih;simp only[filter_cons,find?_cons,h,decide_true,Bool.not_true,Bool.false_eq_true,if_false,if_true,Option.isSome_some,Option.isSome_none,length_cons]at *;omega
  .simp only[filter_cons,find?_cons,h,decide_false,Bool.not_false,if_true,length_cons]at *
   omega
theorem EP{l:List A}(hs:eW key l)(x:A):(gG key x l).length=l.length+if (lk key l (key x)).isSome then 0 else 1:=by
 have h1:=Gb (yC hs x) (key x);rw[qp hs,if_pos rfl]at h1
 have h2:gZ key (key x) (gG key x l)=gZ key (key x) l:=by
  refine JG (yB (yC hs x) _) (yB hs _) fun k=>?_
  rw[qq (yC hs x),qq hs,qp hs];split
  .rfl
  .rfl
 rw[h2]at h1;have h3:=Gb hs (key x);simp only[Option.isSome_some,if_true]at h1
 split at h3 <;> simp_all <;> omega
theorem E0{g:eA->V->A}{d:V}{m:List (eA×V)}(hn:(m.map (·.1)).Nodup)(hk:∀k v,zp m k=some v->key (g k v)=k)(k:eA)(v:V)(hv:key (g k v)=k) :
  iy g d (eG m k v)=gG key (g k v) (iy g d m):=by
 have hk':∀k' v',zp (eG m k v) k'=some v'->key (g k' v')=k':=fun k' v' h=>by
  rw[ut]at h;split at h
  .rename_i e;subst e;cases h;exact hv
  .exact hk _ _ h
 refine JG (Cu (yL hn k v) hk') (yC (Cu hn hk) _) fun k'=>?_
 rw[uK hk',qp (Cu hn hk),uK hk,ut,hv];split
 .rename_i e;subst e;rfl
 .rfl
theorem EZ{g:eA->V->A}{d:V}{m:List (eA×V)}(hn:(m.map (·.1)).Nodup)(hk:∀k v,zp m k=some v->key (g k v)=k)(k:eA) :
  iy g d (gg m k)=gZ key k (iy g d m):=by
 have hk':∀k' v',zp (gg m k) k'=some v'->key (g k' v')=k':=fun k' v' h=>by
  rw[Bm hn]at h;split at h
  .cases h
  .exact hk _ _ h
 refine JG (Cu (CM hn k) hk') (yB (Cu hn hk) _) fun k'=>?_
 rw[uK hk',qq (Cu hn hk),uK hk,Bm hn]
 split <;> rfl
def kz(key:A->eA)(w:A->V)(l:List A):List (eA×V):=l.map fun x=>(key x,w x)
theorem oV(m:List (eA×V))(k:eA)(v:V)(h:k∉m.map (·.1)):eG m k v=m++[(k,v)]:=by
 induction m with
 |nil=>rfl
 |cons p m ih =>
  have h1:¬ p.1=k:=fun e=>h (by simp[e])
  rw[eG,decide_eq_false h1,cond_false,ih fun h'=>h (by simp at h'|-;exact .inr h')];rfl
theorem nE(w:A->V)(l:List A):(kz key w l).map (·.1)=l.map key:=by simp[kz,Function.comp_def]
theorem Ff{w:A->V}{l:List A}(hs:eW key l):((kz key w l).map (·.1)).Nodup:=by
 rw[nE];exact(pairwise_map.2 (hs.imp fun h=>se h))
theorem E5{w:A->V}{l:List A}(k:eA):zp (kz key w l) k=(lk key l k).map w:=by
 unfold kz lk
 induction l with
 |nil=>rfl
 |cons x l ih =>
  simp only[map_cons,zp,find?_cons]
  by_cases h:key x=k
  .simp[h]
  .rw[decide_eq_false h,cond_false,ih]
theorem jb{Z:Type}{w:A->V}{f:Nat->A->List (eA×V)->(List (eA×V)->Option Z)->(List (eA×V)->Option Z)->Option Z}{k:List (eA×V)->Option Z}
  (hf:∀i x m nx k,f i x m nx k=eB ((eG m (key x) (w x)).length<=274877906944) (nx (eG m (key x) (w x)))) {l:List A} (hs:eW key l) (hl:l.length<=274877906944) :
  forL l 0 f [] k=k (kz key w l):=by
 have:∀(a b:List A) (i:Nat),l=a++b->forL b i f (kz key w a) k=k (kz key w l):=by
  intro a b
  induction b generalizing a with
  |nil=>intro i e;rw[append_nil]at e;subst e;rfl
  |cons x b ih =>
   intro i e;unfold forL
   have hx:key x∉(kz key w a).map (·.1):=by
    rw[nE];intro h;obtain⟨y,hy,hyx⟩:=mem_map.1 h;have h1:=hs;unfold eW at h1;rw[e,pairwise_append]at h1;exact se (h1.2.2 y hy x (mem_cons_self ..)) hyx
   have hap:eG (kz key w a) (key x) (w x)=kz key w (a++[x]):=by
    rw[oV _ _ _ hx];simp[kz]
   rw[hf,hap,zg]
   .exact ih (a++[x]) (i+1) (by rw[e];simp)
   .have:=congrArg List.length e
    simp only[length_append,length_cons]at this;simp only[kz,length_map,length_append,length_cons,length_nil];omega
 exact this [] l 0 rfl
theorem Gq{w:A->V}{g:eA->V->A}{d:V}{l:List A}(hs:eW key l)(hg:∀x∈l,g (key x) (w x)=x):iy g d (kz key w l)=l:=by
 have hk:∀k v,zp (kz key w l) k=some v->key (g k v)=k:=fun k v h=>by
  rw[E5]at h;obtain⟨x,hx,rfl⟩:=Option.map_eq_some_iff.1 h;obtain⟨h1,rfl⟩:=j6 hx;rw[hg x h1]
 refine JG (Cu (Ff hs) hk) hs fun k=>?_
 rw[uK hk,E5]
 cases h:lk key l k with
 |none=>rfl
 |some x =>
  obtain⟨h1,rfl⟩:=j6 h;simp[hg x h1]
theorem Fs{Z:Type}{g:eA->V->A}{d:V}{m:List (eA×V)}{f:Nat->eA->List A->(List A->Option Z)->(List A->Option Z)->Option Z}{k:List A->Option Z}
  (hf:∀i x o nx k,f i x o nx k=eB ((o++[g x ((zp m x).getD d)]).length<=274877906944) (nx (o++[g x ((zp m x).getD d)]))) (hl:m.length<=274877906944) :
  forL (jz m) 0 f [] k=k (iy g d m):=by
 have hk:=kF m
 have:∀(a b:List eA) (i:Nat),jz m=a++b->forL b i f (a.map fun x=>g x ((zp m x).getD d)) k=k (iy g d m):=by
  intro a b
  induction b generalizing a with
  |nil=>intro i e;rw[append_nil]at e;unfold iy;rw[e];rfl
  |cons x b ih =>
   intro i e;have h0:=congrArg List.length e;simp only[length_append,length_cons]at h0;unfold forL;rw[hf,zg (by simp only[length_append,length_map,length_cons,length_nil];omega)];have:=ih (a++[x]) (i+1) (by rw[e];simp);rw[map_append]at this;exact this
 exact this [] _ 0 rfl
end
end Go.Md

