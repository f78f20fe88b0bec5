/- Plain lemmas on the models: the law's model answers true. -/
import Derived.Test.YteofmaagnphonaaGreatDoorKlMd
set_option linter.unusedSimpArgs false
set_option linter.unusedVariables false
set_option linter.unusedSectionVars false
open List
namespace Go.Md
open Go.Vc
section
variable {Z A S α:Type}
theorem zf(x:A)(k:A->Option Z):call (some x) k=k x:=rfl
theorem zH(g:Bool)(x d:A)(k:A->Option Z):callG g (some x) d k=k (bif g then x else d):=by cases g <;> rfl
theorem AQ(a:Option A)(d:A)(k:A->Option Z):callG true a d k=call a k:=rfl
theorem UL(a:Option A)(d:A)(k:A->Option Z):callG false a d k=k d:=rfl
theorem zj{p:Prop}[Decidable p](h:p)(m:Option Z):ey p m=m:=if_pos h
theorem eJ(F:S->Option Z)(m:(S->Option Z)->Option Z):jp F m=m F:=rfl
theorem KL{s:eo}{i:Nat}(h:i<s.length)(k:Int->Option Z):jn s i k=k (s[i].toNat:Int):=by unfold jn;simp[h]
theorem oF{l:List α}{i:Nat}(h:i<l.length)(k:α->Option Z):fq l i k=k l[i]:=by unfold fq;simp[h]
theorem xc{f:Nat->α->Unit->(Unit->Option Z)->(Unit->Option Z)->Option Z}{z:Z}(q:α->Bool)(a:∀i x nx k,f i x () nx k=bif q x then nx ()else some z)(k:Unit->Option Z) :
  ∀(l:List α) (i:Nat),forL l i f () k=bif l.all q then k ()else some z
 |[],i=>rfl
 |x::l,i=>by
  unfold forL;rw[a,xc q a k l (i+1),all_cons];cases q x <;> rfl
theorem tr{f:S->(S->Option Z)->(S->Option Z)->Option Z}{k:S->Option Z}(a:S->Prop)(c:S->Nat)(R:S->Option Z)
  (h:∀s nx,a s->(∀b,a b->c b<c s->nx b=R b)->f s nx k=R s):∀(N:Nat) (s:S),a s->c s<N->loopN N f s k=R s
 |0,s,_,e=>by omega
 |N+1,s,hi,e=>by
  unfold loopN;exact h s _ hi fun b d g=>tr a c R h N b d (by omega)
theorem VC{f:Nat->S->(S->Option Z)->(S->Option Z)->Option Z}{k:S->Option Z}(n:Nat)(a:Nat->S->Prop)(R:Nat->S->Option Z)
  (c:∀s,a n s->k s=R n s) (d:∀i s nx,i<n->a i s->(∀b,a (i+1) b->nx b=R (i+1) b)->f i s nx k=R i s) :
  ∀(m i:Nat) (s:S),m+i=n->a i s->forC m i f s k=R i s
 |0,i,s,e,h=>by
  obtain rfl:i=n:=by omega
  exact c s h
 |m+1,i,s,e,h=>by
  unfold forC;exact d i s _ (by omega) h fun b g=>VC n a R c d m (i+1) b (by omega) g
theorem oN(b:Bool)(x y:Z):(bif b then some x else some y)=some (bif b then x else y):=by cases b <;> rfl
theorem xr(c:Bool)(x y:Z):(bif c then x else y)=bif !c then y else x:=by cases c <;> rfl
theorem rt{c:Bool}(h:c=true)(x y:Z):(bif c then x else y)=x:=by rw[h];rfl
theorem te{c:Bool}(h:c=false)(x y:Z):(bif c then x else y)=y:=by rw[h];rfl
end
theorem iD{n:Int}(a:-9223372036854775808<=n)(b:n<=9223372036854775807):IntKind.i64.wrap n=n:=kP a b
theorem mv(n:Nat)(h:n<=9223372036854775807):IntKind.i64.wrap (n:Int)=n:=kP (by omega) (by omega)
theorem fJ(i:Nat)(h:i<9223372036854775807):IntKind.i64.wrap ((i:Int)+1)=((i+1:Nat):Int):=by rw[iD (by omega) (by omega)];rfl
theorem AC(i:Nat)(a:0<i)(h:i<9223372036854775807):IntKind.i64.wrap ((i:Int)-1)=((i-1:Nat):Int):=by rw[iD (by omega) (by omega)];omega
theorem xa:1099511627776<=fv:=Nat.le_refl _
def fu(c:UInt8):eo->eo×eo×Bool
 |[]=>([],[],false)
 |b::s=>if b=c then([],s,true)else(b::(fu c s).1,(fu c s).2.1,(fu c s).2.2)
def fD(c:UInt8):eo->List eo
 |[]=>[[]]
 |b::s=>if b=c then []::fD c s else match fD c s with
  |[]=>[[b]]
  |h::t=>(b::h)::t
theorem Wv{c:UInt8}:∀{s:eo},c∉s->fu c s=(s,[],false)
 |[],_=>rfl
 |b::s,h=>by
  have a:b≠c:=fun e=>h (by simp[e]);have d:=Wv (s:=s) (c:=c) (fun f=>h (mem_cons_of_mem _ f));simp only[fu,if_neg a,d]
theorem AR{c:UInt8}:∀{s:eo},c∈s->(fu c s).2.2=true/\s=(fu c s).1++c::(fu c s).2.1/\c∉(fu c s).1
 |[],h=>by cases h
 |b::s,h=>by
  by_cases a:b=c
  .subst a;simp[fu]
  .have e:c∈s:=by
    rcases mem_cons.1 h with rfl|h
    .exact absurd rfl a
    .exact h
   obtain⟨f,g,i⟩:=AR e;simp only[fu,if_neg a];refine⟨f,by rw[cons_append,<-g],?_⟩;intro d;rcases mem_cons.1 d with rfl|d
   .exact a rfl
   .exact i d
theorem WC(c:UInt8)(s:eo):fD c s≠[]:=by
 cases s with
 |nil=>simp[fD]
 |cons b s =>
  simp only[fD];split
  .simp
  .split <;> simp
theorem Ly{c:UInt8}:∀{s:eo},c∉s->fD c s=[s]
 |[],_=>rfl
 |b::s,h=>by
  have a:b≠c:=fun e=>h (by simp[e]);have d:=Ly (s:=s) (c:=c) (fun f=>h (mem_cons_of_mem _ f));simp only[fD,if_neg a,d]
theorem Y6{c:UInt8}:∀{a b:eo},c∉a->fD c (a++c::b)=a::fD c b
 |[],b,_=>by simp[fD]
 |x::a,b,h=>by
  have hx:x≠c:=fun e=>h (by simp[e]);have:=Y6 (a:=a) (b:=b) (c:=c) (fun d=>h (mem_cons_of_mem _ d));simp only[cons_append,fD,if_neg hx,this]
theorem WR(c:UInt8)(s:eo):fD c s=if (fu c s).2.2=true then(fu c s).1::fD c (fu c s).2.1 else [s]:=by
 by_cases h:c∈s
 .obtain⟨a,b,d⟩:=AR h;rw[if_pos a];conv=>lhs;rw[b]
  exact Y6 d
 .rw[Wv h];simpa using Ly h
theorem Wl(c:UInt8)(s:eo):(fu c s).1.length<=s.length/\(fu c s).2.1.length<=s.length/\((fu c s).2.2=true->(fu c s).1.length+(fu c s).2.1.length+1=s.length):=by
 by_cases h:c∈s
 .obtain⟨b,a,d⟩:=AR h;have:=congrArg List.length a;simp only[length_append,length_cons]at this;exact⟨by omega,by omega,fun _=>by omega⟩
 .rw[Wv h];simp
theorem ZB(c:UInt8)(s:eo):(fD c s).length=s.count c+1:=by
 induction s with
 |nil=>rfl
 |cons b s a =>
  simp only[fD];split
  .rename_i e;subst e;simp[a]
  .rename_i e;rw[count_cons_of_ne (by simpa using e)];split
   .rename_i d;exact absurd d (WC c s)
   .rename_i d;rw[d]at a;simpa using a
def Bl(s:eo)(c:UInt8):Int:=Lib.indexByte s c
theorem qP(c:UInt8):∀s:eo,Bl s c=if c∈s then((fu c s).1.length:Int)else -1
 |[]=>rfl
 |b::s=>by
  have d:=qP c s;unfold Bl at *;unfold Lib.indexByte;by_cases a:b=c
  .subst a;simp[fu]
  .rw[if_neg (by simpa using a),d];simp only[fu,if_neg a,mem_cons,Ne.symm a,false_or];by_cases h:c∈s
   .rw[if_pos h,if_pos h];simp
   .rw[if_neg h,if_neg h];rfl
theorem nq{c:UInt8}{s:eo}(h:c∈s):Bl s c=((fu c s).1.length:Int):=by rw[qP,if_pos h]
theorem YA{c:UInt8}{s:eo}(h:c∈s):s.take (fu c s).1.length=(fu c s).1/\s.drop ((fu c s).1.length+1)=(fu c s).2.1:=by
 obtain⟨b,a,d⟩:=AR h;generalize fu c s=q at a|-;subst a;constructor
 .exact take_left' rfl
 .rw[<-drop_drop,drop_left' rfl];rfl
theorem Rp(c:UInt8):((([c]:eo).length:Nat):Int)=1:=rfl
theorem lC(s:eo)(c:UInt8):w8 s (c.toNat:Int)=Bl s c:=by
 unfold w8 Bl;congr 1;simp
theorem uz(s:eo)(c:UInt8):PC s [c]=some (Bl s c):=by
 unfold PC Vn;by_cases h:s=[c]
 .subst h;simp[Bl,Lib.indexByte]
 .have:(decide (([c]:eo)=s))=false:=by simpa using fun e=>h e.symm
  simp only[this,Rp,show decide ((1:Int)=0)=false from rfl,show decide ((1:Int)=1)=true from rfl,decide_true,Bool.or_false,cond_false,cond_true];show jn [c] ((0:Nat):Int) _=_;rw[KL (by simp)];simp only[zf,getElem_cons_zero,lC]
theorem nr(s:eo)(c:UInt8):LH s [c]=some (Bl s c):=by
 unfold LH;rw[uz];rfl
theorem nU(s:eo)(c:UInt8):O4 s [c]=some ((s.count c:Nat):Int):=by
 unfold O4;simp only[Rp,show decide ((1:Int)=0)=false from rfl,show decide ((1:Int)=1)=true from rfl,decide_true,cond_false,cond_true];show jn [c] ((0:Nat):Int) _=_;rw[KL (by simp)];unfold xz;simp
theorem ZH{c:UInt8}{s:eo}(h:c∈s):(fu c s).2.1.count c+1=s.count c:=by
 obtain⟨d,a,b⟩:=AR h;conv=>rhs;rw[a]
 rw[count_append,count_eq_zero_of_not_mem b,count_cons_self];omega
theorem MH{α:Type}(l:List α)(i:Nat)(x:α)(h:i<l.length):(l.set i x).take (i+1)=l.take i++[x]:=by rw[take_succ_eq_append_getElem (by simpa using h)];simp[take_set_of_le]
theorem mL(s:eo)(c:UInt8)(y:s.length<=17179869184):LI s [c]=some (fD c s):=by
 have n:=count_le_length (a:=c) (l:=s);have key:Ba s [c] 0 (-1)=some (fD c s):=by
  unfold Ba;obtain⟨N,g⟩:∃N,fv=N:=⟨_,rfl⟩;have p:1099511627776<=N:=g ▸ xa;rw[g];clear g;have e:min ((s.count c+1:Nat):Int) ((s.length+1:Nat):Int)=((s.count c+1:Nat):Int):=by omega
  simp only[eJ,nU,zf,show decide ((-1:Int)=0)=false from rfl,show decide ((-1:Int)<0)=true from rfl,show decide (([c]:eo)=[])=false from rfl,cond_true,cond_false];simp only[fJ (s.count c) (by omega),fJ s.length (by omega),e];rw[zj (by omega)];have q:IntKind.i64.wrap (((s.count c+1:Nat):Int)-1)=((s.count c:Nat):Int):=by rw[iD (by omega) (by omega)];omega
  simp only[q,Int.toNat_natCast];refine(tr (S:=eo×Int×List eo) (fun d=>∃i:Nat,d.2.1=i/\d.2.2.length=s.count c+1/\d.1.length<=s.length/\i+d.1.count c=s.count c) (fun d=>s.count c-d.2.1.toNat)
   (fun d=>some (d.2.2.take d.2.1.toNat++fD c d.1)) ?_ N _ ⟨0,rfl,by simp,Nat.le_refl _,by simp⟩ (by simp only;omega)).trans ?_
  .rintro⟨t,z,o⟩ nx ⟨i,rfl,k,r,u⟩ f;simp only at k r u f|-;simp only[nr,zf];by_cases hi:i<s.count c
   .have b:c∈t:=by rw[<-count_pos_iff];omega
    obtain⟨m,A,B⟩:=AR b;have C:=(Wl c t).2.2 m;obtain⟨v,w⟩:=YA b;rw[decide_eq_true (by omega),cond_true,nq b,decide_eq_false (by omega),cond_false];have h:IntKind.i64.wrap (((fu c t).1.length:Int)+0)=((fu c t).1.length:Int):=by rw[iD (by omega) (by omega)];omega
    have j:IntKind.i64.wrap (((fu c t).1.length:Int)+(([c]:eo).length:Int))=(((fu c t).1.length+1:Nat):Int):=fJ _ (by omega);simp only[h,j,fJ i (by omega),Int.toNat_natCast];rw[zj (by omega),zj (by omega),zj (by omega)];have x:=ZH b;simp only[v,w];rw[f _ ⟨i+1,rfl,by simpa using k,by simp only;omega,by simp only;omega⟩ (by simp only[Int.toNat_natCast];omega)];simp only[Int.toNat_natCast];rw[MH o i _ (by omega)];congr 1;rw[show fD c t=(fu c t).1::fD c (fu c t).2.1 by rw[WR,if_pos m]];simp
   .obtain rfl:i=s.count c:=by omega
    rw[decide_eq_false (by omega),cond_false];have b:c∉t:=by rw[<-count_pos_iff];omega
    rw[zj (by omega),fJ _ (by omega)];simp only[Int.toNat_natCast,length_set];rw[zj (by omega),MH o _ _ (by omega),Ly b]
  .simp
 unfold LI;rw[key];rfl
def fZ{α:Type}(q:Nat->α->Bool):Nat->List α->Bool
 |_,[]=>true
 |i,x::l=>q i x&&fZ q (i+1) l
section
variable {Z α:Type}
theorem ka{f:Nat->α->Unit->(Unit->Option Z)->(Unit->Option Z)->Option Z}{z:Z}(q:Nat->α->Bool)(a:∀i x nx k,f i x () nx k=bif q i x then nx ()else some z)(k:Unit->Option Z) :
  ∀(l:List α) (i:Nat),forL l i f () k=bif fZ q i l then k ()else some z
 |[],i=>rfl
 |x::l,i=>by
  unfold forL fZ;rw[a,ka q a k l (i+1)];cases q i x <;> rfl
end
def xy(c:UInt8):Bool:=decide (97<=(c.toNat:Int))&&decide ((c.toNat:Int)<=122)
def iY(c:UInt8):Bool:=decide (48<=(c.toNat:Int))&&decide ((c.toNat:Int)<=57)
def ta(c:UInt8):Bool:=((xy c||iY c)||decide ((c.toNat:Int)=45))||decide ((c.toNat:Int)=46)
def gO(s:eo):Bool:=((s.all ta&&(!decide (s=[])&&decide ((s.length:Int)<=40)))&&xy (s.getD 0 0))
theorem orG(a b:Bool):(a||bif !a then b else false)=(a||b):=by cases a <;> rfl
theorem zlU(c:UInt8):Nq (c.toNat:Int)=some (ta c):=by unfold Nq AY LA;simp only[zf,zH,orG];rfl
theorem UV(s:eo):xI s=some (gO s):=by
 unfold xI UH;simp only[eJ];rw[xc ta (fun i x nx k=>by simp only[zlU,zf];cases ta x <;> rfl)];simp only[oN,zf];rw[zj]
 .unfold AY;simp only[zH];unfold gO xy;generalize a:s.all ta=A;cases A <;> simp only[cond_true,cond_false,Bool.false_and,Bool.true_and]
  generalize b:(!decide (s=[])&&decide ((s.length:Int)<=40))=B;cases B <;> rfl
 .intro h;cases s with
  |nil=>cases a:List.all [] ta <;> rw[a]at h <;> simp at h
  |cons=>simp only[length_cons];omega
theorem om{α:Type}{q:Nat->α->Bool}{p:α->Bool}:∀(l:List α) (i:Nat),(∀j x,i<=j->q j x=p x)->fZ q i l=l.all p
 |[],i,_=>rfl
 |x::l,i,h=>by unfold fZ;rw[h i x (Nat.le_refl _),om l (i+1) (fun j x a=>h j x (by omega)),all_cons]
theorem xg(s:eo):qh s=some (gO s):=by
 unfold qh;simp only[eJ];refine(ka (z:=false) (fun i c=>!((decide ((i:Int)=0)&&!xy c)||!ta c)) (fun i c nx k=>?_) _ _ _).trans ?_
 .rw[xr];congr 1;unfold ta xy iY;rw[Bool.eq_iff_iff];simp only[Bool.or_eq_true,Bool.and_eq_true,Bool.not_eq_true',decide_eq_true_eq,Bool.or_eq_false_iff,Bool.and_eq_false_iff,decide_eq_false_iff_not,Bool.not_eq_false'];omega
 simp only[oN];congr 1;unfold gO;cases s with
 |nil=>rfl
 |cons x l =>
  unfold fZ;rw[om (p:=ta) l 1 (fun j x a=>by rw[decide_eq_false (by omega)];cases ta x <;> rfl),all_cons];simp only[getD_cons_zero];cases ta x <;> cases xy x <;> cases l.all ta <;> simp
def oR(c:UInt8):Bool:=decide (32<=(c.toNat:Int))&&decide ((c.toNat:Int)<=126)
def qf(s:eo):Bool:=s.all oR&&decide ((s.length:Int)<=1000)
theorem WS(s:eo):B2 s=some (qf s):=by
 unfold B2;simp only[eJ];refine(xc (z:=false) oR (fun i c nx k=>?_) _ _ _).trans ?_
 .rw[xr];congr 1;unfold oR;rw[Bool.eq_iff_iff];simp only[Bool.or_eq_true,Bool.and_eq_true,Bool.not_eq_true',decide_eq_true_eq,Bool.or_eq_false_iff,Bool.and_eq_false_iff,decide_eq_false_iff_not,Bool.not_eq_false'];omega
 .simp only[oN];unfold qf;cases s.all oR <;> rfl
theorem ZD(s:eo):Lz s=some (qf s):=by
 unfold Lz UI;simp only[eJ];rw[xc oR (fun i x nx k=>by unfold UW oR;simp only[zf];rw[xr,Bool.not_not])];simp only[oN,zH];unfold qf;cases s with
 |nil=>rfl
 |cons x l=>simp only[show decide (x::l=[])=false from rfl,Bool.not_false,Bool.true_and,cond_true,Bool.false_or];cases List.all (x::l) oR <;> rfl
def iL(c:UInt8):Bool:=((((xy c||(decide (65<=(c.toNat:Int))&&decide ((c.toNat:Int)<=90)))||iY c)||decide ((c.toNat:Int)=45))||decide ((c.toNat:Int)=46))||decide ((c.toNat:Int)=95)
def xx(s:eo):Bool:=((s.all iL&&(!decide (s=[])&&decide ((s.length:Int)<=40)))&&!decide (s=[46]))&&!decide (s=[46,46])
theorem ox(s:eo):Mu s=some (xx s):=by
 unfold Mu;simp only[eJ];refine(xc (z:=false) iL (fun i c nx k=>?_) _ _ _).trans ?_
 .rw[xr];congr 1;unfold iL xy iY;rw[Bool.eq_iff_iff];simp only[Bool.or_eq_true,Bool.and_eq_true,Bool.not_eq_true',decide_eq_true_eq,Bool.or_eq_false_iff,Bool.and_eq_false_iff,decide_eq_false_iff_not,Bool.not_eq_false'];omega
 .simp only[oN];unfold xx;cases s.all iL <;> rfl
theorem XM(a b d:Bool):((a||b)||bif !(a||b)then d else false)=((a||b)||d):=by cases a <;> cases b <;> rfl
theorem zoy(s:eo):Nb s=some (xx s):=by
 unfold Nb UJ;simp only[eJ];rw[xc iL (fun i x nx k=>by
  unfold UM iL AY LA xy iY;simp only[zf,zH,XM];rw[xr,Bool.not_not])]
 simp only[oN,zf];unfold xx;cases s.all iL <;> rfl
def fE(s:eo):Bool:=(fD 47 s).all xx&&decide ((s.length:Int)<=200)
theorem AW(s:eo)(a:s.length<=17179869184):tn s=some (fE s):=by
 unfold tn fE;simp only[eJ,mL s 47 a,zf];rw[xc xx (fun i x nx k=>by rw[ox,zf,xr,Bool.not_not])];cases (fD 47 s).all xx <;> rfl
theorem O5(s:eo)(a:s.length<=17179869184):xJ s=some (fE s):=by
 unfold xJ fE;simp only[eJ,mL s 47 a,zf];rw[xc xx (fun i x nx k=>by rw[zoy,zf,xr,Bool.not_not])];cases (fD 47 s).all xx <;> rfl
def mG(a b:eo):Bool:=kK a b||decide (a=b)
theorem th(b:Bool)(e:Int):ii b e=some (bif b then e else 0):=by cases b <;> rfl
def fa(a b:Int):Int:=bif !decide (a=0)then a else b
theorem JT(a:Int):g8 [a]=some a:=by
 unfold g8;simp only[eJ,forL];by_cases h:a=0
 .subst h;rfl
 .rw[decide_eq_false h];rfl
theorem UA(a:Int)(l:List Int)(r:Int)(h:g8 l=some r):g8 (a::l)=some (fa a r):=by
 unfold g8 at *;simp only[eJ,forL]at *;unfold fa;by_cases f:a=0
 .subst f;simp only[decide_true,Bool.not_true,cond_false];rw[<-h]
  have:∀(l:List Int) (i j:Nat),forL l i (fun d b s c e=>bif !decide (b=0)then some b else c ()) () (fun _=>some (0:Int))=forL l j (fun d b s c e=>bif !decide (b=0)then some b else c ()) () (fun _=>some (0:Int)):=by
   intro l;induction l with
   |nil=>intro i j;rfl
   |cons x l g=>intro i j;unfold forL;simp only[g (i+1) (j+1)]
  exact this l _ _
 .rw[decide_eq_false f];rfl
theorem w7(a b:Int):g8 [a,b]=some (fa a b):=UA a _ _ (JT b)
theorem KF(a b c:Int):g8 [a,b,c]=some (fa a (fa b c)):=UA a _ _ (w7 b c)
def s9(s:ab):Int:=bif !gO s.r then 5 else bif !qf s.Value then 2 else 0
def gj(s:ab):Int:=bif !fE s.r then 5 else bif !qf s.Value then 2 else 0
def jq(f:ae):Int:=bif !fE f.a then 5 else bif decide (65536<(f.F.length:Int))then 4 else 0
def fO(s:ah):Int:=bif !gO s.C||!fE s.a then 5 else 0
def ord(i:Nat)(a b:eo):Bool:=decide (0<(i:Int))&&mG a b
def ik{α:Type}(e:α->Int)(nm:α->eo):Nat->eo->List α->Int
 |_,_,[]=>0
 |i,a,x::l=>bif !decide (e x=0)then e x else bif ord i (nm x) a then 7 else ik e nm (i+1) (nm x) l
theorem UE{α:Type}(e:α->Int)(nm:α->eo)(a b:eo)(l:List α):ik e nm 0 a l=ik e nm 0 b l:=by cases l <;> rfl
section
variable {Z α:Type} {e:α->Int} {nm:α->eo}
theorem Bi{f:Nat->α->eo->(eo->Option Int)->(eo->Option Int)->Option Int}{K:eo->Option Int}(P:α->Prop)
  (c:∀i x a nx k,P x->f i x a nx k=bif !decide (fa (e x) (bif ord i (nm x) a then 7 else 0)=0)then some (fa (e x) (bif ord i (nm x) a then 7 else 0))else nx (nm x)) :
  ∀(l:List α) (i:Nat) (a:eo),(∀x∈l,P x)->∃b,forL l i f a K=bif !decide (ik e nm i a l=0)then some (ik e nm i a l)else K b
 |[],i,a,_=>⟨a,rfl⟩
 |x::l,i,a,d=>by
  obtain⟨b,h⟩:=Bi P c l (i+1) (nm x) (fun y j=>d y (mem_cons_of_mem _ j));refine⟨b,?_⟩;unfold forL ik;rw[c _ _ _ _ _ (d x (mem_cons_self ..)),h];unfold fa;by_cases g:e x=0
  .simp only[g,decide_true,Bool.not_true,cond_false];cases ord i (nm x) a <;> rfl
  .simp only[decide_eq_false g,Bool.not_false,cond_true]
theorem qI{f:Nat->α->Unit->(Unit->Option Int)->(Unit->Option Int)->Option Int}{K:Unit->Option Int}(P:α->Prop)(L:List α)(d:α)
  (c:∀(i:Nat) x nx k,P x->i<L.length->f i x () nx k=bif !decide (e x=0)then some (e x)else bif ord i (nm x) (nm (L.getD (i-1) d))then some 7 else nx ()) :
  ∀(l:List α) (i:Nat),L.drop i=l->(∀x∈l,P x)->forL l i f () K=bif !decide (ik e nm i (nm (L.getD (i-1) d)) l=0)then some (ik e nm i (nm (L.getD (i-1) d)) l)else K ()
 |[],i,_,_=>rfl
 |x::l,i,a,g=>by
  have hi:i<L.length:=by
   rcases Nat.lt_or_ge i L.length with h|h
   .exact h
   .rw[drop_eq_nil_of_le h]at a;cases a
  have hx:L.getD i d=x:=by
   have:=drop_eq_getElem_cons hi;rw[a]at this;have:=(List.cons.inj this).1;rw[this];simp[hi]
  have b:L.drop (i+1)=l:=by
   have:=congrArg List.tail a;simpa using this
  unfold forL ik;rw[c _ _ _ _ (g x (mem_cons_self ..)) hi,qI P L d c l (i+1) b (fun y m=>g y (mem_cons_of_mem _ m))];simp only[Nat.add_sub_cancel,hx];by_cases j:e x=0
  .simp only[j,decide_true,Bool.not_true,cond_false];cases ord i (nm x) (nm (L.getD (i-1) d)) <;> rfl
  .simp only[decide_eq_false j,Bool.not_false,cond_true]
end
theorem TV(i:Nat)(s a:eo):A1 (i:Int) s a=some ((bif ord i s a then 7 else 0),s):=by
 unfold A1;rw[th,zf];rfl
def Sm(s:eo):Prop:=s.length<=17179869184
theorem ZF(f:ae)(h:Sm f.a):Ll f=some (jq f):=by
 unfold Ll;rw[AW _ h];simp only[zf,th,w7];unfold jq fa;cases fE f.a <;> rfl
theorem ZL(f:ab)(h:Sm f.r):LN f=some (gj f):=by
 unfold LN;rw[AW _ h,WS];simp only[zf,th,w7];unfold gj fa;cases fE f.r <;> rfl
theorem ZK(f:ah)(h:Sm f.a):LM f=some (fO f):=by
 unfold LM;rw[AW _ h,xg];simp only[zf,zH,th];unfold fO;cases gO f.C <;> cases fE f.a <;> rfl
theorem znS(f:ae)(h:Sm f.a):LP f=some (jq f):=by
 unfold LP;rw[O5 _ h];simp only[zf];unfold jq;cases fE f.a
 .rfl
 .simp only[Bool.not_true,cond_false,oN]
theorem wU(f:ab)(h:Sm f.r):Nn f=some (gj f):=by
 unfold Nn U3;rw[O5 _ h,ZD];simp only[zf];unfold gj;cases fE f.r <;> cases qf f.Value <;> rfl
theorem s7(f:ab):Nm f=some (s9 f):=by
 unfold Nm U2;rw[UV,ZD];simp only[zf];unfold s9;cases gO f.r <;> cases qf f.Value <;> rfl
theorem wT(f:ah)(h:Sm f.a):Pi f=some (fO f):=by
 unfold Pi;rw[O5 _ h,UV];simp only[zf,zH];unfold fO;cases gO f.C <;> cases fE f.a <;> rfl
theorem Ws{i:Nat}(h:0<i)(a:i<=274877906944):IntKind.i64.wrap ((i:Int)-1)=((i-1:Nat):Int):=by rw[iD (by omega) (by omega)];omega
theorem XL{i:Nat}{a b:eo}:(decide (0<(i:Int))&&(kK a b||decide (a=b)))=ord i a b:=rfl
theorem vY(l:List ab)(c:l.length<=17179869184):PF l=some (ik s9 (·.r) 0 [] l):=by
 unfold PF;simp only[eJ];rw[qI (e:=s9) (nm:=(·.r)) (fun _=>True) l ⟨[],[]⟩ (fun i x nx k _ hi=>by
  rw[s7];simp only[zf,AU,zH];cases a:decide (0<(i:Int))with
  |false=>rw[zj (by intro h;cases h)];unfold ord;rw[a];rfl
  |true =>
   have b:0<i:=by simpa using a
   rw[Ws b (by omega),zj (by intro _;omega)];simp only[cond_true,Int.toNat_natCast];unfold ord mG;rw[a]) l 0 rfl (fun _ _=>trivial)]
 rw[oN];rw[UE s9 (·.r) _ []];cases h:decide (ik s9 (·.r) 0 [] l=0)
 .rfl
 .rw[of_decide_eq_true h];rfl
theorem vX(l:List ab)(d:l.length<=17179869184)(c:∀x∈l,Sm x.r):LY l=some (ik gj (·.r) 0 [] l):=by
 unfold LY;simp only[eJ];rw[qI (e:=gj) (nm:=(·.r)) (fun x=>Sm x.r) l ⟨[],[]⟩ (fun i x nx k hx hi=>by
  rw[wU _ hx];simp only[zf,AU,zH];cases a:decide (0<(i:Int))with
  |false=>rw[zj (by intro h;cases h)];unfold ord;rw[a];rfl
  |true =>
   have b:0<i:=by simpa using a
   rw[Ws b (by omega),zj (by intro _;omega)];simp only[cond_true,Int.toNat_natCast];unfold ord mG;rw[a]) l 0 rfl c]
 rw[oN];rw[UE gj (·.r) _ []];cases h:decide (ik gj (·.r) 0 [] l=0)
 .rfl
 .rw[of_decide_eq_true h];rfl
theorem y3(l:List ah)(f:l.length<=17179869184)(d:∀x∈l,Sm x.a):LX l=some (ik fO (·.C) 0 [] l):=by
 unfold LX;simp only[eJ];rw[qI (e:=fO) (nm:=(·.C)) (fun x=>Sm x.a) l ⟨[],[],false,false⟩ (fun i x nx k hx hi=>by
  rw[wT _ hx];simp only[zf,M6,zH];cases b:decide (0<(i:Int))with
  |false=>rw[zj (by intro h;cases h)];unfold ord;rw[b];rfl
  |true =>
   have c:0<i:=by simpa using b
   rw[Ws c (by omega),zj (by intro _;omega)];simp only[cond_true,Int.toNat_natCast];unfold ord mG;rw[b]) l 0 rfl d]
 rw[oN];rw[UE fO (·.C) _ []];cases h:decide (ik fO (·.C) 0 [] l=0)
 .rfl
 .rw[of_decide_eq_true h];rfl
abbrev Mp:=List (eo×Bool)
def gK(m:Mp)(a:eo)(i:Nat)(c:UInt8):Bool:=!(decide ((c.toNat:Int)=47)&&(zS m (a.take i)).getD false)
def xm(m:Mp)(a:eo):Bool:=fZ (gK m a) 0 a
def tJ:Nat->eo->Mp->List ae->Int
 |_,_,_,[]=>0
 |i,b,m,x::l=>bif !decide (jq x=0)then jq x else bif ord i x.a b then 7 else bif !xm m x.a then 11 else tJ (i+1) x.a (eD m x.a true) l
theorem nL(a b:eo)(m:Mp)(l:List ae):tJ 0 a m l=tJ 0 b m l:=by cases l <;> rfl
theorem T7:∀(m:Mp) (k:eo) (v:Bool),(eD m k v).length<=m.length+1
 |[],k,v=>by simp[eD]
 |p::m,k,v=>by
  unfold eD;have:=T7 m k v;cases decide (p.1=k) <;> simp <;> omega
theorem wL(a:eo)(m:Mp):LG a m=some (xm m a):=by
 unfold LG;simp only[eJ];have n:∀i:Nat,True:=fun _=>trivial;have:∀(l:eo) (i:Nat),a.drop i=l->forL l i (fun b d s e j =>
  ey ((decide ((d.toNat:Int)=47))=true->(0<=(b:Int)/\(b:Int)<=(a.length:Int))) <|
  callG (decide ((d.toNat:Int)=47)) (Pa (List.take b a) m) false fun f =>
  bif ((decide ((d.toNat:Int)=47))&&(!f))then
   some false
  else
  e ()) () (fun _=>some true)=some (fZ (gK m a) i l):=by
  intro l;induction l with
  |nil=>intro i _;rfl
  |cons c l k =>
   intro i g;have hi:i<a.length:=by
    rcases Nat.lt_or_ge i a.length with h|h
    .exact h
    .rw[drop_eq_nil_of_le h]at g;cases g
   unfold forL fZ;simp only[k (i+1) (by have:=congrArg List.tail g;simpa using this)];rw[zj (by intro _;omega)];simp only[Pa,fc,zH];unfold gK;cases decide ((c.toNat:Int)=47) <;> cases (zS m (List.take i a)).getD false <;> rfl
 exact this a 0 rfl
theorem Yx(a:eo)(m:Mp){f:Int×Int->(Int×Int->Option Int)->(Int×Int->Option Int)->Option Int}{K:Int×Int->Option Int}(c:a.length<=17179869184)
  (b:∀(e:Int) (i:Nat) nx,f (e,(i:Int)) nx K=if h:i<a.length then nx ((bif gK m a i a[i]then e else 11),((i+1:Nat):Int))else K (e,(i:Int))) :
  ∀(n:Nat) (e:Int) (i:Nat),a.length+1<=n+i->i<=a.length->loopN n f (e,(i:Int)) K=K ((bif fZ (gK m a) i (a.drop i)then e else 11),(a.length:Int))
 |0,e,i,d,g=>by omega
 |n+1,e,i,d,g=>by
  unfold loopN;rw[b];by_cases h:i<a.length
  .rw[dif_pos h,Yx a m c b n _ (i+1) (by omega) (by omega),drop_eq_getElem_cons h];rw[show fZ (gK m a) i (a[i]::a.drop (i+1))=(gK m a i a[i]&&fZ (gK m a) (i+1) (a.drop (i+1)))from rfl];cases gK m a i a[i] <;> cases fZ (gK m a) (i+1) (a.drop (i+1)) <;> rfl
  .have:i=a.length:=by omega
   subst this;rw[dif_neg h,drop_length];rfl
theorem pW{f:Nat->ae->eo×Mp->(eo×Mp->Option Int)->(eo×Mp->Option Int)->Option Int}{K:eo×Mp->Option Int}
  (d:∀(i:Nat) x b (m:Mp) nx,Sm x.a->m.length+1<=17179869184->f i x (b,m) nx K=bif !decide (jq x=0)then some (jq x)else bif ord i x.a b then some 7 else bif !xm m x.a then some 11 else nx (x.a,eD m x.a true)) :
  ∀(l:List ae) (i:Nat) (b:eo) (m:Mp),m.length+l.length<=17179869184->(∀x∈l,Sm x.a)->∃c,forL l i f (b,m) K=bif !decide (tJ i b m l=0)then some (tJ i b m l)else K c
 |[],i,b,m,_,_=>⟨(b,m),rfl⟩
 |x::l,i,b,m,j,e=>by
  have n:=T7 m x.a true;simp only[length_cons]at j;obtain⟨c,h⟩:=pW d l (i+1) x.a (eD m x.a true) (by omega) (fun y k=>e y (mem_cons_of_mem _ k));refine⟨c,?_⟩;unfold forL tJ;rw[d _ _ _ _ _ (e x (mem_cons_self ..)) (by omega),h];by_cases g:jq x=0
  .simp only[g,decide_true,Bool.not_true,cond_false];cases ord i x.a b
   .cases xm m x.a <;> rfl
   .rfl
  .simp only[decide_eq_false g,Bool.not_false,cond_true]
def xw(m:aj):Int :=
 bif ((((decide (100<(m.D.length:Int)))||(decide (2000<(m.u.length:Int))))||(decide (2000<(m.B.length:Int))))||(decide (100<(m.A.length:Int))))then 4 else
 fa (ik s9 (·.r) 0 [] m.D) (fa (tJ 0 [] [] m.u) (fa (ik gj (·.r) 0 [] m.B) (ik fO (·.C) 0 [] m.A)))
structure Bx(m:aj):Prop where
 facts:m.D.length<=17179869184
 files:m.u.length<=17179869184
 sets:m.B.length<=17179869184
 svcs:m.A.length<=17179869184
 fp:∀x∈m.u,Sm x.a
 sp:∀x∈m.B,Sm x.r
 vp:∀x∈m.A,Sm x.a
theorem ME(a b:Int)(o:Option Int)(h:o=some b):(bif !decide (a=0)then some a else o)=some (fa a b):=by subst h;unfold fa;cases decide (a=0) <;> rfl
theorem Zl(m:aj)(h:Bx m):Lo m=some (xw m):=by
 unfold Lo xw;generalize ((((decide (100<(m.D.length:Int)))||(decide (2000<(m.u.length:Int))))||(decide (2000<(m.B.length:Int))))||(decide (100<(m.A.length:Int))))=B;cases B with
 |true=>rfl
 |false =>
  simp only[cond_false];rw[vY _ h.facts,zf];refine ME _ _ _ ?_;simp only[eJ];obtain⟨q,r⟩:=pW (f:=fun k c s j o =>
   match s with
   |(b,d) =>
    call (LP c) fun e =>
    bif !decide (e=0)then
     some e
    else
    bif ((decide (0<(k:Int)))&&(kK c.a b||decide (c.a=b)))then
     some 7
    else
    call (LG c.a d) fun l =>
    bif !l then
     some 11
    else
    ey ((eD d c.a true).length<=274877906944) <|
    j (c.a,eD d c.a true)) (K:=fun s=>match s with
   |(b,d)=>call (LY m.B) fun g =>
    bif !decide (g=0)then
     some g
    else
    call (LX m.A) fun n =>
    some n) (fun i x p t nx hx v=>by
    have w:=T7 t x.a true;simp only[znS _ hx,zf,wL,XL];rw[zj (by omega)]) m.u 0 [] [] (by simpa using h.files) h.fp
  rw[r];refine ME _ _ _ ?_;obtain⟨x,y⟩:=q;simp only[vX _ h.sets h.sp,y3 _ h.svcs h.vp,zf];exact ME _ _ _ rfl
theorem VW{α:Type}{e:α->Int}{nm:α->eo}{f:Nat->α->eo->(eo->Option Int)->(eo->Option Int)->Option Int}{K:eo->Option Int}{r:Int}{l:List α}{a:eo}(P:α->Prop)
  (c:∀i x a nx k,P x->f i x a nx k=bif !decide (fa (e x) (bif ord i (nm x) a then 7 else 0)=0)then some (fa (e x) (bif ord i (nm x) a then 7 else 0))else nx (nm x))
  (d:∀x∈l,P x) (g:∀a,K a=some r):forL l 0 f a K=some (fa (ik e nm 0 [] l) r):=by
 obtain⟨b,h⟩:=Bi (K:=K) P c l 0 a d;rw[h,UE e nm a []];exact ME _ _ _ (g _)
theorem sy{f:Nat->ae->eo×Mp->(eo×Mp->Option Int)->(eo×Mp->Option Int)->Option Int}{K:eo×Mp->Option Int}{r:Int}{l:List ae}{b:eo}
  (c:∀(i:Nat) x b (m:Mp) nx,Sm x.a->m.length+1<=17179869184->f i x (b,m) nx K=bif !decide (jq x=0)then some (jq x)else bif ord i x.a b then some 7 else bif !xm m x.a then some 11 else nx (x.a,eD m x.a true))
  (d:l.length<=17179869184) (e:∀x∈l,Sm x.a) (g:∀s,K s=some r):forL l 0 f (b,[]) K=some (fa (tJ 0 [] [] l) r):=by
 obtain⟨j,h⟩:=pW (K:=K) c l 0 b [] (by simpa using d) e;rw[h,nL b []];exact ME _ _ _ (g _)
theorem sU(a:eo)(m:Mp){f:Int×Int->(Int×Int->Option Int)->(Int×Int->Option Int)->Option Int}{K:Int×Int->Option Int}{N:Nat}{e:Int}(d:1099511627776<=N)(b:a.length<=17179869184)
  (c:∀(e:Int) (i:Nat) nx,f (e,(i:Int)) nx K=if h:i<a.length then nx ((bif gK m a i a[i]then e else 11),((i+1:Nat):Int))else K (e,(i:Int))) :
  loopN N f (e,0) K=K ((bif xm m a then e else 11),(a.length:Int)) :=
 Yx a m b c N e 0 (by omega) (by omega)
theorem Ln(m:aj)(h:Bx m):w9 m=some (xw m):=by
 unfold w9 xw;generalize ((((decide (100<(m.D.length:Int)))||(decide (2000<(m.u.length:Int))))||(decide (2000<(m.B.length:Int))))||(decide (100<(m.A.length:Int))))=B;obtain⟨N,f⟩:∃N,fv=N:=⟨_,rfl⟩;have g:1099511627776<=N:=f ▸ xa;rw[f];clear f;cases B with
 |true=>rfl
 |false =>
  simp only[cond_false,eJ];refine VW (e:=s9) (nm:=(·.r)) (fun _=>True) (fun i x b nx k _=>?_) (fun _ _=>trivial) fun b=>?_
  .simp only[xg,WS,zf,th,TV,KF];unfold s9 fa;cases gO x.r <;> cases qf x.Value <;> cases ord i x.r b <;> rfl
  refine sy (fun i x b c nx hx l=>?_) h.files h.fp fun s=>?_
  .have n:=T7 c x.a true;simp only[ZF _ hx,zf,TV,w7];by_cases d:jq x=0
   .cases o:ord i x.a b with
    |true=>simp only[d,cond_true,show fa 0 7=7 from rfl];rfl
    |false =>
     simp only[d,cond_false,show fa 0 0=0 from rfl,decide_true,Bool.not_true,cond_true];rw[sU x.a c g hx (fun e i nx=>?_)]
     .rw[zj (by omega)];cases xm c x.a <;> rfl
     .simp only[fc];by_cases hi:i<x.a.length
      .rw[dif_pos hi,decide_eq_true (by omega),cond_true,KL hi,zj (by intro _;omega)]
       have j:IntKind.i64.wrap ((i:Int)+1)=((i+1:Nat):Int):=by
        have:x.a.length<=17179869184:=hx;rw[iD (by omega) (by omega)];rfl
       simp only[j,Int.toNat_natCast];unfold gK;cases decide (((x.a[i]).toNat:Int)=47)&&(zS c (List.take i x.a)).getD false <;> rfl
      .rw[dif_neg hi,decide_eq_false (by omega),cond_false]
   .have:fa (jq x) (bif ord i x.a b then 7 else 0)=jq x:=by unfold fa;rw[decide_eq_false d];rfl
    simp only[this,decide_eq_false d,Bool.not_false,cond_true,cond_false]
  obtain⟨b,c⟩:=s;refine VW (e:=gj) (nm:=(·.r)) (fun x=>Sm x.r) (fun i x b nx k hx=>?_) h.sp fun b=>?_
  .simp only[ZL _ hx,zf,TV,w7]
  rw[show ik fO (fun x=>x.C) 0 [] m.A=fa (ik fO (fun x=>x.C) 0 [] m.A) 0 by unfold fa;cases p:decide (ik fO (fun x=>x.C) 0 [] m.A=0) <;> simp_all];refine VW (e:=fO) (nm:=(·.C)) (fun x=>Sm x.a) (fun i x b nx k hx=>?_) h.vp fun b=>rfl;simp only[ZK _ hx,zf,TV,w7]
def jc:ae:=⟨[],[],false⟩
def oO:ab:=⟨[],[]⟩
def i9:ah:=⟨[],[],false,false⟩
def oB(c:ai):Int :=
 bif decide (c.g=1)then jq c.j else
 bif decide (c.g=2)then(bif !fE c.j.a then 5 else 0)else
 bif decide (c.g=3)then gj c.x else
 bif decide (c.g=4)then(bif !fE c.x.r then 5 else 0)else
 bif decide (c.g=5)then fO c.h else
 bif !gO c.h.C then 5 else 0
def iQ(c:ai):ai :=
 bif decide (c.g=1)then⟨c.g,c.j,oO,i9⟩else
 bif decide (c.g=2)then⟨c.g,⟨c.j.a,[],false⟩,oO,i9⟩else
 bif decide (c.g=3)then⟨c.g,jc,c.x,i9⟩else
 bif decide (c.g=4)then⟨c.g,jc,⟨c.x.r,[]⟩,i9⟩else
 bif decide (c.g=5)then⟨c.g,jc,oO,c.h⟩else
 ⟨c.g,jc,oO,⟨c.h.C,[],false,false⟩⟩
def KI(c:ai):Bool:=decide (1<=c.g)&&decide (c.g<=6)
def lL(a b:ae):Bool:=decide (a.a=b.a)&&(decide (a.F=b.F)&&decide (a.G=b.G))
def rf(a b:ab):Bool:=decide (a.r=b.r)&&decide (a.Value=b.Value)
def rc(a b:ah):Bool:=decide (a.C=b.C)&&(decide (a.a=b.a)&&(decide (a.H=b.H)&&decide (a.I=b.I)))
def Bt(a b:ai):Bool:=(lL a.j b.j&&(rf a.x b.x&&rc a.h b.h))
theorem sB{a b:ae}(h:lL a b=true):a=b:=by
 obtain⟨c,d,e⟩:=a;obtain⟨f,g,i⟩:=b;simp only[lL,Bool.and_eq_true,decide_eq_true_eq]at h;obtain⟨rfl,rfl,rfl⟩:=h;rfl
theorem vR{a b:ab}(h:rf a b=true):a=b:=by
 obtain⟨c,d⟩:=a;obtain⟨e,f⟩:=b;simp only[rf,Bool.and_eq_true,decide_eq_true_eq]at h;obtain⟨rfl,rfl⟩:=h;rfl
theorem vQ{a b:ah}(h:rc a b=true):a=b:=by
 obtain⟨c,d,e,f⟩:=a;obtain⟨g,i,j,k⟩:=b;simp only[rc,Bool.and_eq_true,decide_eq_true_eq]at h;obtain⟨rfl,rfl,rfl,rfl⟩:=h;rfl
theorem J7{a b:ai}(c:a.g=b.g)(h:Bt a b=true):a=b:=by obtain⟨i,j,k,l⟩:=a;obtain⟨m,n,o,p⟩:=b;simp only[Bt,Bool.and_eq_true]at h;obtain⟨d,e,f⟩:=h;simp only at c;rw[c,sB d,vR e,vQ f]
def ml(c:ai):Int:=bif !KI c then 1 else bif decide (oB c=0)&&!Bt c (iQ c)then 2 else oB c
structure kF(c:ai):Prop where
 fp:Sm c.j.a
 sp:Sm c.x.r
 vp:Sm c.h.a
theorem vu{n:Int}(h:(decide (1<=n)&&decide (n<=6))=true):n=1∨n=2∨n=3∨n=4∨n=5∨n=6:=by simp only[Bool.and_eq_true,decide_eq_true_eq]at h;omega
theorem HG{n:Int}(h:(decide (1<=n)&&decide (n<=6))=false):decide (n=1)=false/\decide (n=2)=false/\decide (n=3)=false/\decide (n=4)=false/\decide (n=5)=false/\decide (n=6)=false:=by
 simp only[Bool.and_eq_false_iff,decide_eq_false_iff_not]at h;refine⟨?_,?_,?_,?_,?_,?_⟩ <;> (simp only[decide_eq_false_iff_not];omega)
theorem u0(a:Int)(q:Bool):fa a (bif !q then 2 else 0)=bif decide (a=0)&&!q then 2 else a:=by
 unfold fa;by_cases h:a=0
 .subst h;cases q <;> rfl
 .rw[decide_eq_false h];rfl
theorem YJ(c:ai)(h:kF c):LF c=some (ml c):=by
 unfold LF ml KI;simp only[eJ];cases a:decide (1<=c.g)&&decide (c.g<=6)
 .obtain⟨b,d,f,i,j,k⟩:=HG a;rw[b,d,f,i,j,k];rfl
 .simp only[Bool.not_true,cond_false];rw[ZF _ h.fp,ZL _ h.sp,ZK _ h.vp,xg,AW _ h.fp,AW _ h.sp];simp only[zf,th,w7,decide_true,Bool.true_and,u0];unfold oB iQ;rcases vu a with e|e|e|e|e|e
  all_goals
   rw[e];simp only[show decide ((1:Int)=1)=true from rfl,show decide ((2:Int)=1)=false from rfl,show decide ((2:Int)=2)=true from rfl,show decide ((3:Int)=1)=false from rfl,show decide ((3:Int)=2)=false from rfl,show decide ((3:Int)=3)=true from rfl,show decide ((4:Int)=1)=false from rfl,show decide ((4:Int)=2)=false from rfl,show decide ((4:Int)=3)=false from rfl,show decide ((4:Int)=4)=true from rfl,
    show decide ((5:Int)=1)=false from rfl,show decide ((5:Int)=2)=false from rfl,show decide ((5:Int)=3)=false from rfl,show decide ((5:Int)=4)=false from rfl,show decide ((5:Int)=5)=true from rfl,show decide ((6:Int)=1)=false from rfl,show decide ((6:Int)=2)=false from rfl,show decide ((6:Int)=3)=false from rfl,show decide ((6:Int)=4)=false from rfl,show decide ((6:Int)=5)=false from rfl,show decide ((6:Int)=6)=true from rfl,decide_true,cond_true,cond_false]
   simp only[oN,Bt,lL,rf,rc,jc,oO,i9,decide_true,Bool.true_and,Bool.and_true,Bool.and_assoc]
  .rfl
  .rfl
  .rfl
  .rfl
  .rfl
  .rfl
theorem T8{c:ai}(h:ml c=0):KI c=true/\oB c=0/\c=iQ c:=by
 unfold ml at h;cases b:KI c
 .rw[b]at h;simp at h
 .rw[b]at h;simp only[Bool.not_true,cond_false]at h;cases a:decide (oB c=0)&&!Bt c (iQ c)
  .rw[a,cond_false]at h;rw[h]at a;simp only[decide_true,Bool.true_and,Bool.not_eq_false']at a;refine⟨rfl,h,J7 ?_ a⟩;unfold iQ;cases decide (c.g=1) <;> cases decide (c.g=2) <;> cases decide (c.g=3) <;> cases decide (c.g=4) <;> cases decide (c.g=5) <;> rfl
  .rw[a]at h;simp at h
theorem PG(n:Nat)(h:n<18446744073709551616):IntKind.u64.wrap (n:Int)=n:=by unfold IntKind.wrap;simp only[IntKind.bits,IntKind.signed,Bool.false_and,Bool.false_eq_true,if_false];omega
theorem mr(n:Int):∃m:Nat,IntKind.u64.wrap n=m/\m<18446744073709551616:=by refine⟨(n % 18446744073709551616).toNat,?_,by omega⟩;unfold IntKind.wrap;simp only[IntKind.bits,IntKind.signed,Bool.false_and,Bool.false_eq_true,if_false];omega
theorem uB(n c:Nat)(k:IntKind)(a:c<=k.bits):Int.fdiv (n:Int) (2^(jx k (c:Int)))=((n / 2^c:Nat):Int):=by
 have:jx k (c:Int)=c:=by unfold jx;simp;omega
 rw[this,Int.fdiv_eq_ediv_of_nonneg _ (Int.le_of_lt (Int.pow_pos (by decide)))];rw[Int.natCast_ediv,Int.natCast_pow];rfl
theorem oi(n c m:Nat)(h:n<18446744073709551616)(a:m=2^c-1)(e:c<64):gv .and .u64 (n:Int) (m:Int)=((n % 2^c:Nat):Int):=by
 subst a;have f:2^c<=2^63:=Nat.pow_le_pow_right (by decide) (by omega);show IntKind.u64.wrap (((BitVec.ofInt 64 (n:Int) &&& BitVec.ofInt 64 ((2^c-1:Nat):Int)).toNat:Nat):Int)=_;rw[BitVec.toNat_and,BitVec.toNat_ofInt,BitVec.toNat_ofInt];have b:((n:Int) % ((2^64:Nat):Int)).toNat=n:=by omega
 have d:(((2^c-1:Nat):Int) % ((2^64:Nat):Int)).toNat=2^c-1:=by omega
 rw[b,d,Nat.and_two_pow_sub_one_eq_mod];exact PG _ (Nat.lt_of_le_of_lt (Nat.mod_le _ _) h)
theorem Wc{Z S α:Type}(g:S->α->S)(k:S->Option Z):∀(l:List α) (i:Nat) (s:S),forL l i (fun _ c s nx _=>nx (g s c)) s k=k (l.foldl g s)
 |[],_,_=>rfl
 |x::l,i,s=>by unfold forL;exact Wc g k l (i+1) (g s x)
theorem zoG{α:Type}(n i:Nat)(f:Nat->α)(v:α):((List.range n).map f).set i v=(List.range n).map (fun j=>if j=i then v else f j):=by
 apply ext_getElem
 .simp
 .intro j a b;simp only[getElem_set,getElem_map,getElem_range];by_cases h:i=j
  .subst h;simp
  .rw[if_neg h,if_neg (Ne.symm h)]
theorem rP{α:Type}(l:List α)(f:α->UInt8):Go.Vc.strOf (l.map fun x=>((f x).toNat:Int))=l.map f:=by unfold Go.Vc.strOf;simp
def HXs:eo:=[48,49,50,51,52,53,54,55,56,57,97,98,99,100,101,102]
def D36:eo:=[48,49,50,51,52,53,54,55,56,57,97,98,99,100,101,102,103,104,105,106,107,108,109,110,111,112,113,114,115,116,117,118,119,120,121,122]
def dg(n:Nat):UInt8:=HXs.getD n 0
def hx:Nat->Nat->eo
 |0,_=>[]
 |k+1,n=>hx k (n / 16)++[dg (n % 16)]
def j9(h:Int)(c:UInt8):Int:=IntKind.u64.wrap ((gv .xor .u64 h (IntKind.u64.wrap (c.toNat:Int)))*1099511628211)
def Bn(s:eo):Int:=s.foldl j9 14695981039346656037
def gH(s:eo):eo:=hx 16 (Bn s).toNat
theorem j8(s:eo):∃n:Nat,Bn s=n/\n<18446744073709551616:=by
 have:∀(s:eo) (h:Int),(∃n:Nat,h=n/\n<18446744073709551616)->∃n:Nat,s.foldl j9 h=n/\n<18446744073709551616:=by
  intro s;induction s with
  |nil=>exact fun h a=>a
  |cons c s b=>exact fun h _=>b _ (mr _)
 exact this s _ ⟨14695981039346656037,rfl,by decide⟩
theorem J9:∀m:Fin 16,D36.getD m.val 0=dg m.val:=by decide
theorem JQ{Z:Type}(m:Nat)(h:m<16)(k:Int->Option Z):jn HXs (m:Int) k=k ((dg m).toNat:Int):=by rw[KL (by simpa [HXs]using h)];simp only[dg,getD_eq_getElem?_getD,getElem?_eq_getElem (show m<HXs.length by simpa [HXs]using h),Option.getD_some]
theorem qU{Z:Type}(m:Nat)(h:m<16)(k:Int->Option Z):jn D36 (m:Int) k=k ((dg m).toNat:Int):=by
 have a:m<D36.length:=by simp[D36];omega
 rw[KL a,<-J9 ⟨m,h⟩];simp only[getD_eq_getElem?_getD,getElem?_eq_getElem a,Option.getD_some]
theorem Yc(n:Nat):(List.range 16).map (fun j=>dg (n / 2^(60-4*j) % 16))=hx 16 n:=by simp only[hx,List.range,List.range.loop,map_cons,map_nil,Nat.div_div_eq_div_mul,nil_append,cons_append];simp
theorem EO(s:eo):tU s=some (gH s):=by
 obtain⟨n,g,e⟩:=j8 s;unfold tU;obtain⟨N,k⟩:∃N,fv=N:=⟨_,rfl⟩;have r:1099511627776<=N:=k ▸ xa;rw[k];show forL s 0 (fun _ c h nx _=>nx (j9 h c)) 14695981039346656037 _=_;rw[Wc];show jp _ (fun l=>loopN N _ _ _)=_;rw[show s.foldl j9 14695981039346656037=(n:Int)from g];unfold jp;let a:=fun i:Nat=>(List.range 16).map fun j=>if j<i then((dg (n / 2^(60-4*j) % 16)).toNat:Int)else 0
 refine(tr (fun s=>∃i:Nat,s.1=(i:Int)/\i<=16/\s.2=a i) (fun s=>16-s.1.toNat) (fun _=>some (gH s)) ?_ N _ ⟨0,rfl,by omega,?_⟩ (by show 16-Int.toNat 0<N;simp;omega)).trans rfl
 .rintro⟨t,o⟩ nx ⟨i,m,hi,p⟩ f;obtain rfl:t=i:=m;obtain rfl:o=a i:=p;simp only[length_replicate];by_cases h:i<16
  .rw[rt (decide_eq_true (by omega))];have q:IntKind.i64.wrap (60-IntKind.i64.wrap (4*(i:Int)))=((60-4*i:Nat):Int):=by rw[iD (n:=4*(i:Int)) (by omega) (by omega),iD (by omega) (by omega)];omega
   rw[q,zj (by omega),uB _ _ _ (by simp only[IntKind.bits];omega)];rw[show(15:Int)=((15:Nat):Int)from rfl,oi _ 4 15 (Nat.lt_of_le_of_lt (Nat.div_le_self _ _) e) (by decide) (by decide)];show jn HXs _ _=_;rw[JQ _ (Nat.mod_lt _ (by decide)),zj (by simp[a];omega),fJ i (by omega)];refine f _ ⟨i+1,rfl,by omega,?_⟩ ?_
   .show List.set (a i) (Int.toNat (i:Int)) _=_;rw[Int.toNat_natCast];show((List.range 16).map _).set i _=(List.range 16).map _;rw[zoG];apply map_congr_left;intro j _;by_cases d:j=i
    .subst d;rw[if_pos rfl,if_pos (by omega)]
    .rw[if_neg d];by_cases b:j<i
     .rw[if_pos b,if_pos (by omega)]
     .rw[if_neg b,if_neg (by omega)]
   .show 16-Int.toNat ((i+1:Nat):Int)<16-Int.toNat (i:Int);rw[Int.toNat_natCast,Int.toNat_natCast];omega
  .rw[te (decide_eq_false (by omega))];obtain rfl:i=16:=by omega
   show some (Go.Vc.strOf (a 16))=_;have:a 16=(List.range 16).map fun j=>((dg (n / 2^(60-4*j) % 16)).toNat:Int):=by apply map_congr_left;intro j d;rw[if_pos (mem_range.1 d)]
   rw[this,rP,Yc];unfold gH;rw[g];rfl
 .show List.replicate 16 (0:Int)=_;apply ext_getElem
  .simp[a]
  .intro j m p;rw[getElem_replicate];simp only[a,getElem_map,getElem_range];rfl
def fm:Nat->Nat->eo
 |0,n=>[dg n]
 |k+1,n=>if n<16 then [dg n]else fm k (n / 16)++[dg (n % 16)]
theorem qV:∀k:Nat,hx k 0=List.replicate k 48
 |0=>rfl
 |k+1=>by
  show hx k (0 / 16)++[dg (0 % 16)]=_;rw[Nat.zero_div,qV k,replicate_succ'];rfl
theorem pQ:∀k n:Nat,1<=(fm k n).length/\(fm k n).length<=k+1
 |0,n=>by simp[fm]
 |k+1,n=>by
  have:=pQ k (n / 16);simp only[fm];split <;> simp <;> omega
theorem vK:∀k n:Nat,n<16^(k+1)->List.replicate (k+1-(fm k n).length) 48++fm k n=hx (k+1) n
 |0,n,h=>by
  have:n % 16=n:=Nat.mod_eq_of_lt (by simpa using h);simp[fm,hx,this]
 |k+1,n,h=>by
  have e:=pQ k (n / 16);simp only[fm];split
  .rename_i a;have b:n / 16=0:=Nat.div_eq_of_lt a;have c:n % 16=n:=Nat.mod_eq_of_lt a;show _=hx (k+1) (n / 16)++[dg (n % 16)];rw[b,c,qV];rfl
  .have d:=vK k (n / 16) (by rw[Nat.pow_succ]at h;omega);show _=hx (k+1) (n / 16)++[dg (n % 16)];rw[<-d,length_append,append_assoc];congr 2;simp
theorem Xw:U8 (IntKind.u64.wrap 16)=some 4:=by decide +kernel
theorem Rk:Vl 16=some true:=by decide +kernel
theorem mM(l:List Int)(i:Nat)(v:Int)(h:i<l.length):(l.set i v).drop i=v::l.drop (i+1):=by rw[drop_set];simp only[Nat.lt_irrefl,if_false,Nat.sub_self];rw[drop_eq_getElem_cons h];rfl
theorem Zh(v:UInt8)(l:List Int):Go.Vc.strOf ((v.toNat:Int)::l)=v::Go.Vc.strOf l:=by simp[Go.Vc.strOf]
theorem lI(n:Nat)(h:n<18446744073709551616):PE [] (n:Int) 16 false false=some ([],fm 15 n):=by
 unfold PE;obtain⟨N,l⟩:∃N,fv=N:=⟨_,rfl⟩;have z:1099511627776<=N:=l ▸ xa;rw[l];simp only[Rk,Xw,zf,jp,cond_true,cond_false,show decide ((16:Int)<2)=false from rfl,show decide ((16:Int)=10)=false from rfl,show decide ((36:Int)<16)=false from rfl,Bool.or_self];have r:IntKind.u64.wrap 16=16:=by decide
 have c:IntKind.u64.wrap 4=((4:Nat):Int):=by decide
 have a:IntKind.u64.wrap (16-1)=((15:Nat):Int):=by decide
 rw[r,c,a];refine(tr (fun s=>∃m j:Nat,s.1=(m:Int)/\s.2.1=(j:Int)/\j<=65/\50<=j/\m<16^(j-49)/\s.2.2.length=65/\fm 15 n=fm (j-50) m++Go.Vc.strOf (s.2.2.drop j)) (fun s=>s.2.1.toNat) (fun _=>some ([],fm 15 n)) ?_ N _ ⟨n,65,rfl,rfl,by omega,by omega,by omega,by simp,by simp[Go.Vc.strOf]⟩ (by show Int.toNat 65<N;simp;omega));rintro⟨u,i,o⟩ nx ⟨m,j,t,v,A,w,d,p,f⟩ g;obtain rfl:u=m:=t;obtain rfl:i=j:=v;simp only;simp only at p f;have b:m<18446744073709551616:=Nat.lt_of_lt_of_le d (Nat.le_trans (Nat.pow_le_pow_right (by decide) (show j-49<=16 by omega)) (by decide));have x:IntKind.i64.wrap ((j:Int)-1)=((j-1:Nat):Int):=AC j (by omega) (by omega);rw[x];by_cases B:16<=m
 .rw[rt (decide_eq_true (by omega)),oi m 4 15 b (by decide) (by decide)];show jn D36 _ _=_;rw[qU _ (Nat.mod_lt _ (by decide)),zj (by omega),zj (by omega),uB m 4 .u64 (by decide)]
  have y:50<j:=by
   rcases Nat.lt_or_ge 50 j with q|q
   .exact q
   .exfalso;obtain rfl:j=50:=by omega
    simp at d;omega
  refine g _ ⟨m / 16,j-1,rfl,rfl,by omega,by omega,?_,by simpa using p,?_⟩ (by show Int.toNat _<Int.toNat _;rw[Int.toNat_natCast,Int.toNat_natCast];omega)
  .have:16^(j-49)=16^(j-1-49)*16:=by rw[<-Nat.pow_succ];congr 1;omega
   rw[this]at d;omega
  .rw[f,Int.toNat_natCast];rw[show j-50=(j-1-50)+1 by omega];simp only[fm];rw[if_neg (by omega),mM _ _ _ (by omega),Zh,show j-1+1=j by omega,append_assoc];rfl
 .rw[te (decide_eq_false (by omega))];show jn D36 _ _=_;rw[qU m (by omega),zj (by omega)];rw[zj (by simp only[length_set];omega)];rw[Int.toNat_natCast,mM _ _ _ (by omega),show j-1+1=j by omega,take_of_length_le (by simp;omega),Zh,f]
  have:fm (j-50) m=[dg m]:=by
   cases e:j-50 with
   |zero=>rfl
   |succ k=>simp only[fm];rw[if_pos (by omega)]
  rw[this];rfl
theorem mb(n:Nat)(h:n<18446744073709551616):Ps (n:Int) 16=some (fm 15 n):=by
 unfold Ps U7;rw[lI n h];rfl
theorem yh:∀c:Fin 17,Pg [48] (c.val:Int)=some (List.replicate c.val 48):=by
 intro c;obtain⟨c,d⟩:=c;simp only;unfold Pg;obtain⟨N,e⟩:∃N,fv=N:=⟨_,rfl⟩;rw[e];clear e;by_cases i:c=0
 .subst i;rfl
 by_cases j:c=1
 .subst j;rfl
 rw[te (decide_eq_false (by omega)),te (decide_eq_false (by omega))];have l:∀c:Fin 17,UR (IntKind.u64.wrap (([48]:eo).length:Int)) (IntKind.u64.wrap (c.val:Int))=some (0,(c.val:Int)):=by decide +kernel
 simp only[eJ];rw[te (decide_eq_false (by omega)),l ⟨c,d⟩];simp only[zf];rw[show decide ((0:Int)<0)=false from rfl,te (by simp;omega)];rw[te (by simp)];show jn [48] ((0:Nat):Int) _=_;rw[KL (by simp)];simp only[getElem_cons_zero];rw[show decide (((48:UInt8).toNat:Int)=32)=false from rfl,show decide (((48:UInt8).toNat:Int)=45)=false from rfl,show decide (((48:UInt8).toNat:Int)=48)=true from rfl,cond_false,cond_false,cond_true,cond_true];have f:∀(g:Bool) (a b:eo) (k:Bool->Option eo),z6 a b=some false->callG g (z6 a b) false k=k false:=by
  intro g a b k h;rw[h,zH];cases g <;> rfl
 have m:IntKind.i64.wrap (c:Int)=c:=mv c (by omega);rw[f _ _ _ _ (by decide +kernel),Bool.and_false,cond_false,f _ _ _ _ (by decide +kernel),Bool.and_false,cond_false,m];rw[show z6 _ [48]=some true from by decide +kernel,zH,decide_eq_true (by omega:(c:Int)<=64)];simp only[Bool.and_true,cond_true];have n:∀c:Fin 17,List.take (Int.toNat (c.val:Int)) ([48,48,48,48,48,48,48,48,48,48,48,48,48,48,48,48,48,48,48,48,48,48,48,48,48,48,48,48,48,48,48,48,48,48,48,48,48,48,48,48,48,48,48,48,48,48,48,48,48,48,48,48,48,48,48,48,48,48,48,48,48,48,48,48]:eo)=List.replicate c.val 48:=by decide
 rw[zj (by simp;omega),n ⟨c,d⟩]
theorem B5(s:eo):BP s=some (gH s):=by
 obtain⟨n,b,a⟩:=j8 s;unfold BP;show jp _ (fun k=>forL s 0 (fun _ c h nx _=>nx (j9 h c)) 14695981039346656037 _)=_;simp only[eJ];rw[Wc];rw[show s.foldl j9 14695981039346656037=(n:Int)from b,mb n a];have d:=pQ 15 n;simp only[zf];rw[show IntKind.i64.wrap (16-((fm 15 n).length:Int))=((16-(fm 15 n).length:Nat):Int)by rw[iD (by omega) (by omega)];omega];have:=yh ⟨16-(fm 15 n).length,by omega⟩;simp only at this;rw[this,zf,zj (by simp;omega),vK 15 n (by omega)];unfold gH;rw[b];rfl
theorem mF:∀a b:eo,kK a b=decide (a<b)
 |[],[]=>by simp[kK,Op.bytesLess]
 |_::_,[]=>by simp[kK,Op.bytesLess]
 |[],_::_=>by simp[kK,Op.bytesLess]
 |a::x,b::y=>by have c:=mF x y;unfold kK at *;rw[Op.bytesLess,c,Bool.eq_iff_iff];simp[cons_lt_cons_iff]
theorem Lg{a b c:eo}(d:a<b)(e:b<c):a<c:=List.lt_trans d e
theorem KS(a:eo):¬ a<a:=List.lt_irrefl a
theorem KT(a b:eo):a<b∨a=b∨b<a:=by
 by_cases c:a<b
 .exact .inl c
 .by_cases d:b<a
  .exact .inr (.inr d)
  .exact .inr (.inl (List.le_antisymm (List.not_lt.1 d) (List.not_lt.1 c)))
theorem Uq{a b:eo}(c:a<b):¬ b<a:=fun d=>KS a (Lg c d)
theorem Ay{a b:eo}(c:a<b):a≠b:=fun e=>KS b (e ▸ c)
theorem kr:∀a b:eo,(eU a b<0↔a<b)/\(eU a b=0↔a=b)
 |[],[]=>by simp[eU,Lib.compareBytes]
 |_::_,[]=>by simp[eU,Lib.compareBytes]
 |[],_::_=>by simp[eU,Lib.compareBytes]
 |a::x,b::y=>by
  have d:=kr x y;unfold eU at *;rw[Lib.compareBytes,cons_lt_cons_iff];by_cases h:a<b
  .have:a≠b:=fun e=>by subst e;exact UInt8.lt_irrefl _ h
   simp[h,this]
  .by_cases c:b<a
   .have:a≠b:=fun e=>by subst e;exact UInt8.lt_irrefl _ c
    simp[h,c,this]
   .have:a=b:=UInt8.le_antisymm (UInt8.not_lt.1 c) (UInt8.not_lt.1 h);subst this;simpa [h]using d
theorem Ag(a b:eo):decide (eU a b<0)=decide (a<b):=decide_eq_decide.2 (kr a b).1
theorem yc(a b:eo)(c:b≠[]):a<a++b:=by
 induction a with
 |nil=>cases b with
  |nil=>exact absurd rfl c
  |cons x b=>simp
 |cons x a d=>rw[cons_append,cons_lt_cons_iff];exact .inr ⟨rfl,d⟩
section
variable {K V:Type} [DecidableEq K]
theorem wE{m:List (K×V)}{p:K×V}{k:K}(h:¬ p.1=k):zS (p::m) k=zS m k:=by rw[zS,decide_eq_false h];rfl
theorem wG{m:List (K×V)}{p:K×V}{k:K}(h:p.1=k):zS (p::m) k=some p.2:=by rw[zS,decide_eq_true h];rfl
theorem Ap{m:List (K×V)}{p:K×V}{k:K}{v:V}(h:¬ p.1=k):eD (p::m) k v=p::eD m k v:=by rw[eD,decide_eq_false h];rfl
theorem Ar{m:List (K×V)}{p:K×V}{k:K}{v:V}(h:p.1=k):eD (p::m) k v=(k,v)::m:=by rw[eD,decide_eq_true h];rfl
theorem tT:∀(m:List (K×V)) (k:K) (v:V) (k':K),zS (eD m k v) k'=if k=k' then some v else zS m k'
 |[],k,v,k'=>by
  simp only[eD,zS];by_cases h:k=k' <;> simp[h]
 |p::m,k,v,k'=>by
  unfold eD;by_cases h:p.1=k
  .rw[decide_eq_true h,cond_true];simp only[zS];by_cases a:k=k'
   .simp[a]
   .have:¬ p.1=k':=fun e=>a (h ▸ e);simp[a,this]
  .rw[decide_eq_false h,cond_false];simp only[zS];rw[tT m k v k'];by_cases a:k=k'
   .have:¬ p.1=k':=fun e=>h (e.trans a.symm);simp[a,this]
   .simp only[if_neg a]
theorem alook_none:∀{m:List (K×V)} {k:K},zS m k=none↔k∉m.map (·.1)
 |[],k=>by simp[zS]
 |p::m,k=>by
  simp only[zS,map_cons,mem_cons];by_cases h:p.1=k
  .simp[h]
  .rw[decide_eq_false h,cond_false,alook_none];simp[Ne.symm h]
theorem mem_keys{m:List (K×V)}{k:K}:k∈m.map (·.1)↔(zS m k).isSome=true:=by
 have:=@alook_none K V _ m k;cases h:zS m k with
 |none=>simpa using this.1 h
 |some v =>
  simp only[Option.isSome_some,iff_true];refine Classical.byContradiction fun a=>?_;rw[this.2 a]at h;cases h
theorem ky:∀{m:List (K×V)} {k:K} {v:V},zS m k=some v->(k,v)∈m
 |[],k,v,h=>by cases h
 |p::m,k,v,h=>by
  simp only[zS]at h;by_cases e:p.1=k
  .rw[decide_eq_true e,cond_true]at h;cases h;subst e;exact mem_cons_self ..
  .rw[decide_eq_false e,cond_false]at h;exact mem_cons_of_mem _ (ky h)
theorem j1:∀{m:List (K×V)},(m.map (·.1)).Nodup->∀{p:K×V},p∈m->zS m p.1=some p.2
 |q::m,c,p,b=>by
  have a:=nodup_cons.1 c;simp only[zS];rcases mem_cons.1 b with rfl|b
  .simp
  .have:¬ q.1=p.1:=fun e=>a.1 (by show q.1∈_;rw[e];exact mem_map_of_mem b);rw[decide_eq_false this,cond_false];exact j1 a.2 b
theorem Wf:∀(m:List (K×V)) (k:K) (v:V),(eD m k v).map (·.1)=m.map (·.1)++if (zS m k).isSome then []else [k]
 |[],k,v=>by simp[eD,zS]
 |p::m,k,v=>by
  by_cases h:p.1=k
  .rw[Ar h,wG h];simp[h]
  .rw[Ap h,wE h,map_cons,Wf m k v];rfl
theorem Uw{m:List (K×V)}(h:(m.map (·.1)).Nodup)(k:K)(v:V):((eD m k v).map (·.1)).Nodup:=by
 rw[Wf];split
 .simpa using h
 .rename_i d;have:k∉m.map (·.1):=fun f=>d (mem_keys.1 f);rw[nodup_append];exact⟨h,by simp,fun a g b c e=>by simp at c;subst c;subst e;exact this g⟩
theorem AM(m:List (K×V))(k:K)(v:V):(eD m k v).length=m.length+if (zS m k).isSome then 0 else 1:=by
 have:=congrArg List.length (Wf m k v);simp only[length_map,length_append]at this;rw[this];split <;> simp
theorem kD:∀(m:List (K×V)) (k:K),((jm m k).map (·.1)).Sublist (m.map (·.1))
 |[],k=>by simp[jm]
 |p::m,k=>by
  simp only[jm];by_cases h:p.1=k
  .simp[h]
  .rw[decide_eq_false h,cond_false];exact(kD m k).cons_cons _
theorem Uv{m:List (K×V)}(h:(m.map (·.1)).Nodup)(k:K):((jm m k).map (·.1)).Nodup:=h.sublist (kD m k)
theorem MT:∀{m:List (K×V)},(m.map (·.1)).Nodup->∀(k k':K),zS (jm m k) k'=if k=k' then none else zS m k'
 |[],_,k,k'=>by simp[jm,zS]
 |p::m,c,k,k'=>by
  have b:=nodup_cons.1 c;simp only[jm];by_cases h:p.1=k
  .rw[decide_eq_true h,cond_true];by_cases a:k=k'
   .rw[if_pos a,alook_none.2];rw[<-a,<-h];exact b.1
   .rw[if_neg a];have:¬ p.1=k':=fun e=>a (h ▸ e);simp only[zS];rw[decide_eq_false this,cond_false]
  .rw[decide_eq_false h,cond_false];simp only[zS];rw[MT b.2];by_cases a:k=k'
   .have:¬ p.1=k':=fun e=>h (e.trans a.symm);simp[a,this]
   .simp only[if_neg a]
end
section
variable {α S β:Type}
theorem Ub{f:α->S->(S->Option β)->(S->Option β)->Option β}{k:S->Option β}{z:β}(a:List α->S->Prop)
  (d:∀s,a [] s->k s=some z) (e:∀r s nx x j,a r s->r[j]?=some x->(∀b,a (r.eraseIdx j) b->nx b=some z)->f x s nx k=some z) :
  ∀(n:Nat) (r:List α) (s:S),r.length=n->a r s->forM f n r s k=some z
 |0,[],s,_,h=>d s h
 |n+1,r,s,i,h=>by
  unfold Go.Vc.forM;refine MZ ⟨0,by omega⟩ fun j c=>?_;rw[getElem?_eq_getElem c];exact e r s _ r[j] j h (getElem?_eq_getElem c) fun b g=>Ub a d e n (r.eraseIdx j) b (by rw[length_eraseIdx,if_pos c];omega) g
theorem UT:∀{r:List α} {j:Nat} {x:α},r[j]?=some x->r.Perm (x::r.eraseIdx j)
 |[],_,_,h=>by cases h
 |y::r,0,x,h=>by
  simp at h;subst h;simp
 |y::r,j+1,x,h=>by simp only[getElem?_cons_succ]at h;rw[eraseIdx_cons_succ];exact((UT h).cons y).trans (.swap x y _)
end
theorem Wa(a b c:eo)(d:decide (a<=b)=true)(e:decide (b<=c)=true):decide (a<=c)=true:=by simp only[decide_eq_true_eq]at *;exact List.le_trans d e
theorem V9(a b:eo):(decide (a<=b)||decide (b<=a))=true:=by simp only[Bool.or_eq_true,decide_eq_true_eq];exact List.le_total a b
theorem WB(l:List eo):(sortS l).Perm l:=mergeSort_perm l _
theorem zoF{l l':List eo}(h:l.Perm l'):sortS l=sortS l':=by unfold sortS;refine List.Perm.eq_of_pairwise (le:=fun a b=>decide (a<=b)=true) (fun a b _ _ c d=>?_) (pairwise_mergeSort Wa V9 l) (pairwise_mergeSort Wa V9 l') (((mergeSort_perm l _).trans h).trans (mergeSort_perm l' _).symm);simp only[decide_eq_true_eq]at c d;exact List.le_antisymm c d
theorem uw{l:List eo}(h:l.Nodup):(sortS l).Pairwise (·<·):=by
 have d:(sortS l).Pairwise fun a b=>decide (a<=b)=true:=pairwise_mergeSort Wa V9 l;have e:(sortS l).Pairwise (·≠·):=(WB l).symm.nodup h;refine List.Pairwise.imp₂ (fun a b c f=>?_) d e;simp only[decide_eq_true_eq]at c;rcases KT a b with h|h|h
 .exact h
 .exact absurd h f
 .exact absurd c (List.not_le.2 h)
section
variable {V A:Type}
def oD(m:List (eo×V)):List eo:=sortS (m.map (·.1))
theorem mem_keysM{m:List (eo×V)}{k:eo}:k∈oD m↔(zS m k).isSome=true:=by unfold oD;rw[(WB _).mem_iff,mem_keys]
theorem j5(m:List (eo×V)):(oD m).length=m.length:=by unfold oD;rw[(WB _).length_eq,length_map]
theorem VF(m:List (eo×V))(h:m.length<=274877906944) :
  forM (fun(e:eo×V) (o:List eo) nx _=>ey ((o++[e.1]).length<=274877906944) (nx (o++[e.1]))) m.length m [] (fun o=>some (sortS o))=some (oD m):=by
 refine Ub (fun r o=>(o++r.map (·.1)).Perm (m.map (·.1))) (fun o a=>?_) (fun r o nx x j a hx b=>?_) _ _ _ rfl (by simp)
 .simp only[map_nil,append_nil]at a;unfold oD;rw[zoF a]
 .have d:=(UT hx).map (·.1);have c:((o++[x.1])++(r.eraseIdx j).map (·.1)).Perm (m.map (·.1)):=by refine List.Perm.trans ?_ a;rw[append_assoc];exact(List.Perm.append_left o d).symm
  have f:=c.length_eq;simp only[length_append,length_map]at f;rw[zj (by simp only[length_append];omega)];exact b _ c
def fB(key:A->eo)(l:List A):Prop:=l.Pairwise fun a b=>key a<key b
def lk(a:A->eo)(l:List A)(k:eo):Option A:=l.find? fun x=>decide (a x=k)
variable {key:A->eo}
theorem qg{l:List A}{k:eo}{x:A}(h:lk key l k=some x):x∈l/\key x=k:=by unfold lk at h;exact⟨mem_of_find?_eq_some h,by simpa using find?_some h⟩
theorem x9{l:List A}(f:fB key l){x y:A}(hx:x∈l)(g:y∈l)(h:key x=key y):x=y:=by
 induction l with
 |nil=>cases hx
 |cons z l i =>
  have a:=pairwise_cons.1 f;rcases mem_cons.1 hx with e|b <;> rcases mem_cons.1 g with d|c
  .rw[e,d]
  .subst e;exact absurd h (Ay (a.1 y c))
  .subst d;exact absurd h.symm (Ay (a.1 x b))
  .exact i a.2 b c
theorem lr{l:List A}(a:fB key l){x:A}(hx:x∈l):lk key l (key x)=some x:=by
 cases h:lk key l (key x)with
 |none =>
  unfold lk at h;have:=find?_eq_none.1 h x hx;simp at this
 |some y =>
  obtain⟨b,c⟩:=qg h;rw[x9 a b hx c]
theorem lk_none{l:List A}{k:eo}:lk key l k=none↔∀x∈l,key x≠k:=by unfold lk;simp
theorem jJ{l:List A}(c:fB key l):l.Nodup:=List.Pairwise.imp (R:=fun a b=>key a<key b) (S:=fun a b=>a≠b) (fun h e=>by subst e;exact KS _ h) c
theorem T3{l l':List A}(h:fB key l)(c:fB key l')(d:∀k,lk key l k=lk key l' k):l=l':=by
 have e:∀x,x∈l↔x∈l':=fun x=>⟨fun hx=>(qg ((d _).symm.trans (lr h hx))).1,fun hx=>(qg ((d _).trans (lr c hx))).1⟩;exact List.Perm.eq_of_pairwise (fun a b _ _ f g=>absurd g (Uq f)) h c ((perm_ext_iff_of_nodup (jJ h) (jJ c)).2 e)
def mz(g:eo->V->A)(d:V)(m:List (eo×V)):List A:=(oD m).map fun k=>g k ((zS m k).getD d)
theorem kT(g:eo->V->A)(d:V)(m:List (eo×V)):(mz g d m).length=m.length:=by unfold mz;rw[length_map,j5]
theorem BS{g:eo->V->A}{d:V}{m:List (eo×V)}(l:(m.map (·.1)).Nodup)(f:∀k v,zS m k=some v->key (g k v)=k):fB key (mz g d m):=by
 unfold fB mz;rw[pairwise_map];refine(uw l).imp_of_mem fun {a b} n o h=>?_;have c:=mem_keysM.1 (show a∈oD m from n);have e:=mem_keysM.1 (show b∈oD m from o);obtain⟨v,i⟩:=Option.isSome_iff_exists.1 c;obtain⟨w,j⟩:=Option.isSome_iff_exists.1 e;rw[i,j,Option.getD_some,Option.getD_some,f _ _ i,f _ _ j];exact h
theorem AB{g:eo->V->A}{d:V}{m:List (eo×V)}(l:∀k v,zS m k=some v->key (g k v)=k)(k:eo):lk key (mz g d m) k=(zS m k).map (g k):=by
 have e:∀k'∈oD m,∃v,zS m k'=some v/\key (g k' ((zS m k').getD d))=k':=fun k' h=>by obtain⟨v,a⟩:=Option.isSome_iff_exists.1 (mem_keysM.1 h);exact⟨v,a,by rw[a,Option.getD_some,l _ _ a]⟩
 cases h:zS m k with
 |none =>
  rw[Option.map_none,lk_none];intro x hx;obtain⟨k',b,rfl⟩:=mem_map.1 hx;obtain⟨v,a,c⟩:=e k' b;rw[c];rintro rfl;rw[h]at a;cases a
 |some v =>
  have f:k∈oD m:=mem_keysM.2 (by rw[h];rfl);cases i:lk key (mz g d m) k with
  |none =>
   have:=lk_none.1 i _ (mem_map_of_mem f);obtain⟨n,a,c⟩:=e k f;exact absurd c this
  |some x =>
   obtain⟨o,j⟩:=qg i;obtain⟨k',b,rfl⟩:=mem_map.1 o;obtain⟨n,a,c⟩:=e k' b;rw[c]at j;subst j;rw[h];rfl
def ins(key:A->eo)(x:A)(l:List A):List A:=l.filter (fun y=>decide (key y<key x))++x::l.filter fun y=>decide (key x<key y)
def lN(key:A->eo)(k:eo)(l:List A):List A:=l.filter fun y=>!decide (key y=k)
theorem mem_ins{l:List A}{x y:A}:y∈ins key x l↔y=x∨(y∈l/\key y≠key x):=by
 unfold ins;simp only[mem_append,mem_filter,decide_eq_true_eq,mem_cons];constructor
 .rintro(⟨a,b⟩|rfl|⟨a,b⟩)
  .exact .inr ⟨a,Ay b⟩
  .exact .inl rfl
  .exact .inr ⟨a,Ne.symm (Ay b)⟩
 .rintro(rfl|⟨a,b⟩)
  .exact .inr (.inl rfl)
  .rcases KT (key y) (key x)with h|h|h
   .exact .inl ⟨a,h⟩
   .exact absurd h b
   .exact .inr (.inr ⟨a,h⟩)
theorem mem_del{l:List A}{k:eo}{y:A}:y∈lN key k l↔y∈l/\key y≠k:=by unfold lN;simp
theorem AG{l:List A}(d:fB key l)(x:A):fB key (ins key x l):=by
 unfold fB ins;rw[pairwise_append,pairwise_cons];refine⟨d.filter _,⟨fun y f=>by simpa using (mem_filter.1 f).2,d.filter _⟩,fun a g b c=>?_⟩;have e:key a<key x:=by simpa using (mem_filter.1 g).2
 rcases mem_cons.1 c with rfl|c
 .exact e
 .exact Lg e (by simpa using (mem_filter.1 c).2)
theorem BN{l:List A}(a:fB key l)(k:eo):fB key (lN key k l):=a.filter _
theorem vl{l:List A}{k:eo}{o:Option A}(e:fB key l)(h:∀x,o=some x↔x∈l/\key x=k):lk key l k=o:=by
 cases a:lk key l k with
 |none =>
  cases b:o with
  |none=>rfl
  |some x =>
   obtain⟨c,d⟩:=(h x).1 b;exact absurd d (lk_none.1 a x c)
 |some x=>exact((h x).2 (qg a)).symm
theorem vk{l:List A}(a:fB key l){k:eo}{x:A}:lk key l k=some x↔x∈l/\key x=k:=⟨qg,fun h=>by obtain⟨b,rfl⟩:=h;exact lr a b⟩
theorem pG{l:List A}(c:fB key l)(x:A)(k:eo):lk key (ins key x l) k=if key x=k then some x else lk key l k:=by
 refine vl (AG c x) fun y=>?_;rw[mem_ins];split
 .rename_i h;subst h;constructor
  .intro h;cases h;exact⟨.inl rfl,rfl⟩
  .rintro⟨rfl|⟨a,d⟩,b⟩
   .rfl
   .exact absurd b d
 .rename_i h;rw[vk c];constructor
  .rintro⟨a,rfl⟩;exact⟨.inr ⟨a,fun e=>h e.symm⟩,rfl⟩
  .rintro⟨rfl|⟨a,d⟩,b⟩
   .exact absurd b h
   .exact⟨a,b⟩
theorem pH{l:List A}(c:fB key l)(k k':eo):lk key (lN key k l) k'=if k=k' then none else lk key l k':=by
 refine vl (BN c k) fun y=>?_;rw[mem_del];split
 .rename_i h;subst h;simp only[reduceCtorEq,false_iff];rintro⟨⟨_,a⟩,b⟩;exact a b
 .rename_i h;rw[vk c];constructor
  .rintro⟨a,rfl⟩;exact⟨⟨a,fun e=>h e.symm⟩,rfl⟩
  .rintro⟨⟨a,_⟩,b⟩;exact⟨a,b⟩
theorem Mj{l:List A}(c:fB key l)(k:eo):l.length=(lN key k l).length+if (lk key l k).isSome then 1 else 0:=by
 induction l with
 |nil=>simp[lN,lk]
 |cons x l b =>
  have a:=pairwise_cons.1 c;have b:=b a.2;unfold lN lk at *;by_cases h:key x=k
  .have d:∀y∈l,key y≠k:=fun y f e=>Ay (a.1 y f) (h.trans e.symm);have g:l.find? (fun x=>decide (key x=k))=none:=by simpa using d
   rw[g]at b;simp only[filter_cons,find?_cons,h,decide_true,Bool.not_true,Bool.false_eq_true,if_false,if_true,Option.isSome_some,Option.isSome_none,length_cons]at *;omega
  .simp only[filter_cons,find?_cons,h,decide_false,Bool.not_false,if_true,length_cons]at *;omega
theorem KN{l:List A}(a:fB key l)(x:A):(ins key x l).length=l.length+if (lk key l (key x)).isSome then 0 else 1:=by
 have b:=Mj (AG a x) (key x);rw[pG a,if_pos rfl]at b;have c:lN key (key x) (ins key x l)=lN key (key x) l:=by
  refine T3 (BN (AG a x) _) (BN a _) fun k=>?_;rw[pH (AG a x),pH a,pG a];split
  .rfl
  .rfl
 rw[c]at b;have d:=Mj a (key x);simp only[Option.isSome_some,if_true]at b;split at d <;> simp_all <;> omega
theorem VG{g:eo->V->A}{d:V}{m:List (eo×V)}(c:(m.map (·.1)).Nodup)(b:∀k v,zS m k=some v->key (g k v)=k)(k:eo)(v:V)(i:key (g k v)=k) :
  mz g d (eD m k v)=ins key (g k v) (mz g d m):=by
 have a:∀k' f,zS (eD m k v) k'=some f->key (g k' f)=k':=fun k' f h=>by
  rw[tT]at h;split at h
  .rename_i e;subst e;cases h;exact i
  .exact b _ _ h
 refine T3 (BS (Uw c k v) a) (AG (BS c b) _) fun k'=>?_;rw[AB a,pG (BS c b),AB b,tT,i];split
 .rename_i e;subst e;rfl
 .rfl
theorem VQ{g:eo->V->A}{d:V}{m:List (eo×V)}(a:(m.map (·.1)).Nodup)(c:∀k v,zS m k=some v->key (g k v)=k)(k:eo) :
  mz g d (jm m k)=lN key k (mz g d m):=by
 have b:∀k' e,zS (jm m k) k'=some e->key (g k' e)=k':=fun k' e h=>by
  rw[MT a]at h;split at h
  .cases h
  .exact c _ _ h
 refine T3 (BS (Uv a k) b) (BN (BS a c) _) fun k'=>?_;rw[AB b,pH (BS a c),AB c,MT a];split <;> rfl
def gn(key:A->eo)(w:A->V)(l:List A):List (eo×V):=l.map fun x=>(key x,w x)
theorem oc(m:List (eo×V))(k:eo)(v:V)(h:k∉m.map (·.1)):eD m k v=m++[(k,v)]:=by
 induction m with
 |nil=>rfl
 |cons p m b =>
  have c:¬ p.1=k:=fun e=>h (by simp[e]);rw[eD,decide_eq_false c,cond_false,b fun a=>h (by simp at a|-;exact .inr a)];rfl
theorem VY(w:A->V)(l:List A):(gn key w l).map (·.1)=l.map key:=by simp[gn,Function.comp_def]
theorem B4{w:A->V}{l:List A}(a:fB key l):((gn key w l).map (·.1)).Nodup:=by rw[VY];exact(pairwise_map.2 (a.imp fun h=>Ay h))
theorem BX{w:A->V}{l:List A}(k:eo):zS (gn key w l) k=(lk key l k).map w:=by
 unfold gn lk;induction l with
 |nil=>rfl
 |cons x l a =>
  simp only[map_cons,zS,find?_cons];by_cases h:key x=k
  .simp[h]
  .rw[decide_eq_false h,cond_false,a]
theorem iM{Z:Type}{w:A->V}{f:Nat->A->List (eo×V)->(List (eo×V)->Option Z)->(List (eo×V)->Option Z)->Option Z}{k:List (eo×V)->Option Z}
  (j:∀i x m nx k,f i x m nx k=ey ((eD m (key x) (w x)).length<=274877906944) (nx (eD m (key x) (w x)))) {l:List A} (n:fB key l) (q:l.length<=274877906944) :
  forL l 0 f [] k=k (gn key w l):=by
 have:∀(a b:List A) (i:Nat),l=a++b->forL b i f (gn key w a) k=k (gn key w l):=by
  intro a b;induction b generalizing a with
  |nil=>intro i e;rw[append_nil]at e;subst e;rfl
  |cons x b o =>
   intro i e;unfold forL;have hx:key x∉(gn key w a).map (·.1):=by rw[VY];intro h;obtain⟨y,p,c⟩:=mem_map.1 h;have d:=n;unfold fB at d;rw[e,pairwise_append]at d;exact Ay (d.2.2 y p x (mem_cons_self ..)) c
   have g:eD (gn key w a) (key x) (w x)=gn key w (a++[x]):=by rw[oc _ _ _ hx];simp[gn]
   rw[j,g,zj]
   .exact o (a++[x]) (i+1) (by rw[e];simp)
   .have:=congrArg List.length e;simp only[length_append,length_cons]at this;simp only[gn,length_map,length_append,length_cons,length_nil];omega
 exact this [] l 0 rfl
theorem kS{w:A->V}{g:eo->V->A}{d:V}{l:List A}(b:fB key l)(c:∀x∈l,g (key x) (w x)=x):mz g d (gn key w l)=l:=by
 have e:∀k v,zS (gn key w l) k=some v->key (g k v)=k:=fun k v h=>by rw[BX]at h;obtain⟨x,hx,rfl⟩:=Option.map_eq_some_iff.1 h;obtain⟨a,rfl⟩:=qg hx;rw[c x a]
 refine T3 (BS (B4 b) e) b fun k=>?_;rw[AB e,BX];cases h:lk key l k with
 |none=>rfl
 |some x =>
  obtain⟨a,rfl⟩:=qg h;simp[c x a]
theorem WG{Z:Type}{g:eo->V->A}{d:V}{m:List (eo×V)}{f:Nat->eo->List A->(List A->Option Z)->(List A->Option Z)->Option Z}{k:List A->Option Z}
  (c:∀i x o nx k,f i x o nx k=ey ((o++[g x ((zS m x).getD d)]).length<=274877906944) (nx (o++[g x ((zS m x).getD d)]))) (l:m.length<=274877906944) :
  forL (oD m) 0 f [] k=k (mz g d m):=by
 have n:=j5 m;have:∀(a b:List eo) (i:Nat),oD m=a++b->forL b i f (a.map fun x=>g x ((zS m x).getD d)) k=k (mz g d m):=by
  intro a b;induction b generalizing a with
  |nil=>intro i e;rw[append_nil]at e;unfold mz;rw[e];rfl
  |cons x b h =>
   intro i e;have j:=congrArg List.length e;simp only[length_append,length_cons]at j;unfold forL;rw[c,zj (by simp only[length_append,length_map,length_cons,length_nil];omega)];have:=h (a++[x]) (i+1) (by rw[e];simp);rw[map_append]at this;exact this
 exact this [] _ 0 rfl
end
def fI(p d:eo):Bool:=decide (p.take (d.length+1)=d++[47])
theorem my{p d:eo}(h:fI p d=true):∃r,p=d++47::r:=by
 have:=of_decide_eq_true h;refine⟨p.drop (d.length+1),?_⟩;conv=>lhs;rw[<-take_append_drop (d.length+1) p,this]
 simp
theorem xS(d r:eo):fI (d++47::r) d=true:=by unfold fI;rw[decide_eq_true_eq,show d.length+1=(d++[47]).length by simp,show d++47::r=(d++[47])++r by simp,take_left]
theorem kR{p d:eo}(h:fI p d=true):d<p:=by obtain⟨r,rfl⟩:=my h;exact yc _ _ (by simp)
theorem undB_at{p d:eo}:fI p d=true↔∃i,∃h:i<p.length,p[i]=47/\d=p.take i:=by
 constructor
 .intro h;obtain⟨r,rfl⟩:=my h;exact⟨d.length,by simp,by simp,by simp⟩
 .rintro⟨i,h,a,rfl⟩;have:p=p.take i++47::p.drop (i+1):=by rw[<-a,<-drop_eq_getElem_cons h,take_append_drop]
  conv=>lhs;arg 1;rw[this]
  exact xS _ _
theorem La(p d:eo)(h:d.length<274877906944):tg p d=some (fI p d):=by
 unfold tg z6 Px fI;have a:(d++[47]).length=d.length+1:=by simp
 rw[zj (by rw[a];omega),zj (by intro h;simp only[decide_eq_true_eq]at h;omega)];simp only[zf,a];congr 1;by_cases b:d.length+1<=p.length
 .rw[decide_eq_true (by omega:((d.length+1:Nat):Int)<=(p.length:Int)),Bool.true_and]
 .rw[decide_eq_false (by omega),Bool.false_and,eq_comm,decide_eq_false_iff_not];intro e;have:=congrArg List.length e;simp only[length_take,a]at this;omega
theorem ol{α:Type}{q:Nat->α->Bool}:∀(l:List α) (i:Nat),fZ q i l=true↔∀j (h:j<l.length),q (i+j) l[j]=true
 |[],i=>by simp[fZ]
 |x::l,i=>by
  unfold fZ;rw[Bool.and_eq_true,ol l (i+1)];constructor
  .rintro⟨b,c⟩ j a;cases j with
   |zero=>exact b
   |succ j=>have:=c j (by simpa using a);rw[show i+(j+1)=i+1+j by omega];exact this
  .intro h;refine⟨h 0 (by simp),fun j a=>?_⟩;have:=h (j+1) (by simpa using a);rw[show i+1+j=i+(j+1)by omega];exact this
theorem rz(m:Mp)(p:eo):xm m p=true↔∀d,fI p d=true->(zS m d).getD false=false:=by
 unfold xm;rw[ol];constructor
 .intro h d b;obtain⟨i,hi,a,rfl⟩:=undB_at.1 b;have:=h i hi;unfold gK at this;rw[Nat.zero_add,a]at this;simpa using this
 .intro h j c;unfold gK;rw[Nat.zero_add];cases e:decide ((p[j].toNat:Int)=47)with
  |false=>rfl
  |true =>
   have a:p[j]=47:=by
    have f:p[j].toNat=47:=by simp only[decide_eq_true_eq]at e;omega
    exact UInt8.toNat.inj f
   rw[h _ (undB_at.2 ⟨j,c,a,rfl⟩)];rfl
theorem Hn(i:Nat)(a b:eo):ord i a b=(decide (0<i)&&!decide (b<a)):=by
 unfold ord mG;rw[mF];congr 1
 .exact decide_eq_decide.2 (by omega)
 .rw[Bool.eq_iff_iff];simp only[Bool.or_eq_true,decide_eq_true_eq,Bool.not_eq_true',decide_eq_false_iff_not];constructor
  .rintro(h|rfl)
   .exact Uq h
   .exact KS _
  .intro h;rcases KT a b with c|c|c
   .exact .inl c
   .exact .inr c
   .exact absurd c h
section
variable {α:Type} {nm:α->eo}
def Hd(nm:α->eo)(i:Nat)(a:eo):List α->Prop
 |[]=>True
 |x::_=>0<i->a<nm x
theorem mI{x:α}{l:List α}{i:Nat}:fB nm (x::l)↔Hd nm (i+1) (nm x) l/\fB nm l:=by
 unfold fB;rw[pairwise_cons];cases l with
 |nil=>simp[Hd]
 |cons y l =>
  simp only[Hd];constructor
  .rintro⟨a,b⟩;exact⟨fun _=>a y (mem_cons_self ..),b⟩
  .rintro⟨a,b⟩;refine⟨fun z hz=>?_,b⟩;rcases mem_cons.1 hz with rfl|hz
   .exact a (by omega)
   .exact Lg (a (by omega)) ((pairwise_cons.1 b).1 z hz)
theorem ord_false{i:Nat}{x:α}{l:List α}{a:eo}:ord i (nm x) a=false↔Hd nm i a (x::l):=by
 rw[Hn];simp only[Hd,Bool.and_eq_false_iff,decide_eq_false_iff_not,Bool.not_eq_false',decide_eq_true_eq];constructor
 .rintro(h|h)
  .intro b;exact absurd b h
  .exact fun _=>h
 .intro h;by_cases hi:0<i
  .exact .inr (h hi)
  .exact .inl hi
theorem YH{e:α->Int}:∀(l:List α) (i:Nat) (a:eo),ik e nm i a l=0↔(∀x∈l,e x=0)/\fB nm l/\Hd nm i a l
 |[],i,a=>by simp[ik,fB,Hd]
 |x::l,i,a=>by
  unfold ik;by_cases h:e x=0
  .rw[decide_eq_true h,Bool.not_true,cond_false];cases b:ord i (nm x) a with
   |true =>
    have:¬ Hd nm i a (x::l):=fun c=>by rw[ord_false.2 c]at b;cases b
    simp[this]
   |false =>
    have c:=(ord_false (l:=l)).1 b;rw[cond_false,YH l,mI (i:=i)];simp only[mem_cons,forall_eq_or_imp,h,true_and,c,and_true];constructor
    .rintro⟨d,f,g⟩;exact⟨d,g,f⟩
    .rintro⟨d,g,f⟩;exact⟨d,f,g⟩
  .rw[decide_eq_false h,Bool.not_false,cond_true];simp[h]
end
theorem YE:∀(l:List ae) (i:Nat) (b:eo) (m:Mp),tJ i b m l=0 ↔
  (∀x∈l,jq x=0)/\fB (·.a) l/\Hd (·.a) i b l/\(∀x∈l,∀d,fI x.a d=true->(zS m d).getD false=false)/\l.Pairwise fun y x=>fI x.a y.a=false
 |[],i,b,m=>by simp[tJ,fB,Hd]
 |x::l,i,b,m=>by
  unfold tJ;by_cases h:jq x=0
  .rw[decide_eq_true h,Bool.not_true,cond_false];cases k:ord i x.a b with
   |true =>
    have:¬ Hd (·.a) i b (x::l):=fun f=>by rw[(ord_false (nm:=fun x:ae=>x.a)).2 f]at k;cases k
    simp[this]
   |false =>
    have f:=(ord_false (nm:=fun x:ae=>x.a) (l:=l)).1 k;rw[cond_false];cases n:xm m x.a with
    |false =>
     have:¬ ∀d,fI x.a d=true->(zS m d).getD false=false:=fun f=>by rw[(rz m x.a).2 f]at n;cases n
     rw[Bool.not_false,cond_true];simp[this]
    |true =>
     have o:=(rz m x.a).1 n;rw[Bool.not_true,cond_false,YE l,mI (i:=i),pairwise_cons];simp only[mem_cons,forall_eq_or_imp,h,true_and,f];constructor
     .rintro⟨p,q,r,j,s⟩;refine⟨p,⟨r,q⟩,⟨o,fun y c d g=>?_⟩,fun y c=>?_,s⟩
      .have:=j y c d g;rw[tT]at this;split at this
       .cases this
       .exact this
      .cases t:fI y.a x.a with
       |false=>rfl
       |true =>
        have:=j y c _ t;rw[tT,if_pos rfl]at this;cases this
     .rintro⟨p,⟨r,q⟩,⟨_,j⟩,u,s⟩;refine⟨p,q,r,fun y c d g=>?_,s⟩;rw[tT];split
      .rename_i e;subst e;rw[u y c]at g;cases g
      .exact j y c d g
  .rw[decide_eq_false h,Bool.not_false,cond_true];simp[h]
structure Good(m:aj):Prop where
 c1:m.D.length<=100
 c2:m.u.length<=2000
 c3:m.B.length<=2000
 c4:m.A.length<=100
 f1:∀x∈m.D,s9 x=0
 f2:fB (·.r) m.D
 g1:∀x∈m.u,jq x=0
 g2:fB (·.a) m.u
 g3:∀x∈m.u,∀y∈m.u,fI x.a y.a=false
 s1:∀x∈m.B,gj x=0
 s2:fB (·.r) m.B
 v1:∀x∈m.A,fO x=0
 v2:fB (·.C) m.A
theorem Vs{α:Type}{b:α->eo}{l:List α}{a:eo}:Hd b 0 a l:=by
 cases l with
 |nil=>trivial
 |cons x l=>intro h;omega
theorem uZ(a b:Int):fa a b=0↔a=0/\b=0:=by
 unfold fa;by_cases h:a=0
 .simp[h]
 .rw[decide_eq_false h,Bool.not_false,cond_true];simp[h]
theorem uQ{l:List ae}(o:fB (·.a) l):(l.Pairwise fun y x=>fI x.a y.a=false)↔∀x∈l,∀y∈l,fI x.a y.a=false:=by
 constructor
 .intro h;induction l with
  |nil=>intro x hx;cases hx
  |cons z l q =>
   have d:=pairwise_cons.1 o;have m:=pairwise_cons.1 h;have i:∀p:eo,fI p p=false:=fun p=>by
    cases j:fI p p with
    |false=>rfl
    |true=>exact absurd (kR j) (KS _)
   have k:∀a b:eo,a<b->fI a b=false:=fun a b c=>by
    cases j:fI a b with
    |false=>rfl
    |true=>exact absurd (kR j) (Uq c)
   intro x hx y r;rcases mem_cons.1 hx with e|f <;> rcases mem_cons.1 r with n|g
   .rw[e,n];exact i _
   .subst e;exact k _ _ (d.1 y g)
   .subst n;exact m.1 x f
   .exact q d.2 m.2 x f y g
 .intro h;exact pairwise_iff_forall_sublist.2 fun {a b} c=>h b (c.subset (by simp)) a (c.subset (by simp))
theorem MD(m:aj):xw m=0↔Good m:=by
 unfold xw;cases a:(((decide (100<(m.D.length:Int)))||(decide (2000<(m.u.length:Int))))||(decide (2000<(m.B.length:Int))))||(decide (100<(m.A.length:Int)))with
 |true =>
  simp only[cond_true];simp only[Bool.or_eq_true,decide_eq_true_eq]at a;constructor
  .intro h;cases h
  .intro h;have:=h.c1;have:=h.c2;have:=h.c3;have:=h.c4;omega
 |false =>
  simp only[Bool.or_eq_false_iff,decide_eq_false_iff_not]at a;simp only[cond_false,uZ,YH,YE];constructor
  .rintro⟨⟨c,d,_⟩,⟨e,b,_,_,f⟩,⟨g,i,_⟩,j,k,_⟩;exact⟨by omega,by omega,by omega,by omega,c,d,e,b,(uQ b).1 f,g,i,j,k⟩
  .intro h;exact⟨⟨h.f1,h.f2,Vs⟩,⟨h.g1,h.g2,Vs,fun _ _ _ _=>rfl,(uQ h.g2).2 h.g3⟩,⟨h.s1,h.s2,Vs⟩,h.v1,h.v2,Vs⟩
theorem EH{p:eo}(h:fE p=true):p.length<=200:=by unfold fE at h;simp only[Bool.and_eq_true,decide_eq_true_eq]at h;omega
theorem Nc{f:ae}(h:jq f=0):fE f.a=true/\f.F.length<=65536:=by
 unfold jq at h;cases b:fE f.a <;> rw[b]at h
 .cases h
 .simp only[Bool.not_true,cond_false]at h;by_cases c:65536<(f.F.length:Int)
  .rw[decide_eq_true c]at h;cases h
  .exact⟨rfl,by omega⟩
theorem nQ{s:ab}(h:gj s=0):fE s.r=true/\qf s.Value=true:=by
 unfold gj at h;cases a:fE s.r <;> cases b:qf s.Value <;> rw[a,b]at h <;> first|cases h;done|exact⟨rfl,rfl⟩
theorem ko{s:ah}(h:fO s=0):gO s.C=true/\fE s.a=true:=by
 unfold fO at h;cases b:gO s.C <;> cases c:fE s.a <;> rw[b,c]at h <;> first|cases h;done|exact⟨rfl,rfl⟩
theorem mx{p:eo}(h:qf p=true):p.length<=1000:=by unfold qf at h;simp only[Bool.and_eq_true,decide_eq_true_eq]at h;omega
theorem Good.fit{m:aj}(h:Good m):Bx m:=by
 have:=h.c1;have:=h.c2;have:=h.c3;have:=h.c4;refine⟨by omega,by omega,by omega,by omega,fun x hx=>?_,fun x hx=>?_,fun x hx=>?_⟩
 .have:=EH (Nc (h.g1 x hx)).1;unfold Sm;omega
 .have:=EH (nQ (h.s1 x hx)).1;unfold Sm;omega
 .have:=EH (ko (h.v1 x hx)).2;unfold Sm;omega
def u2:aj:=⟨[],[],[],[]⟩
abbrev xk(l:List ae)(k:eo):=lk (fun x:ae=>x.a) l k
abbrev vm(l:List ab)(k:eo):=lk (fun x:ab=>x.r) l k
abbrev yF(l:List ah)(k:eo):=lk (fun x:ah=>x.C) l k
def oM(p:eo)(f:ae):Bool:=fI f.a p||fI p f.a
def fW(c:ai)(M:aj):Int×aj :=
 bif !decide (ml c=0)then(ml c,M)else
 bif decide (c.g=2)then(bif !(xk M.u c.j.a).isSome then(10,M)else(0,⟨M.D,lN (·.a) c.j.a M.u,M.B,M.A⟩))else
 bif decide (c.g=4)then(bif !(vm M.B c.x.r).isSome then(10,M)else(0,⟨M.D,M.u,lN (·.r) c.x.r M.B,M.A⟩))else
 bif decide (c.g=6)then(bif !(yF M.A c.h.C).isSome then(10,M)else(0,⟨M.D,M.u,M.B,lN (·.C) c.h.C M.A⟩))else
 bif decide (c.g=1)then(bif M.u.any (oM c.j.a)then(11,M)else bif !(xk M.u c.j.a).isSome&&decide (2000<=(M.u.length:Int))then(4,M)else(0,⟨M.D,ins (·.a) c.j M.u,M.B,M.A⟩))else
 bif decide (c.g=3)then(bif !(vm M.B c.x.r).isSome&&decide (2000<=(M.B.length:Int))then(4,M)else(0,⟨M.D,M.u,ins (·.r) c.x M.B,M.A⟩))else
 (bif !(yF M.A c.h.C).isSome&&decide (100<=(M.A.length:Int))then(4,M)else(0,⟨M.D,M.u,M.B,ins (·.C) c.h M.A⟩))
def tM:List ai->aj->aj×Int
 |[],M=>(M,0)
 |c::l,M=>bif !decide ((fW c M).1=0)then(u2,(fW c M).1)else tM l (fW c M).2
def lX(M:aj)(l:List ai):aj×Int:=bif !decide (xw M=0)then(u2,xw M)else tM l M
theorem Mh:(decide ((1:Int)=1)=true/\decide ((1:Int)=2)=false/\decide ((1:Int)=3)=false/\decide ((1:Int)=4)=false/\decide ((1:Int)=5)=false/\decide ((1:Int)=6)=false) /\
  (decide ((2:Int)=1)=false/\decide ((2:Int)=2)=true/\decide ((2:Int)=3)=false/\decide ((2:Int)=4)=false/\decide ((2:Int)=5)=false/\decide ((2:Int)=6)=false) /\
  (decide ((3:Int)=1)=false/\decide ((3:Int)=2)=false/\decide ((3:Int)=3)=true/\decide ((3:Int)=4)=false/\decide ((3:Int)=5)=false/\decide ((3:Int)=6)=false) /\
  (decide ((4:Int)=1)=false/\decide ((4:Int)=2)=false/\decide ((4:Int)=3)=false/\decide ((4:Int)=4)=true/\decide ((4:Int)=5)=false/\decide ((4:Int)=6)=false) /\
  (decide ((5:Int)=1)=false/\decide ((5:Int)=2)=false/\decide ((5:Int)=3)=false/\decide ((5:Int)=4)=false/\decide ((5:Int)=5)=true/\decide ((5:Int)=6)=false) /\
  (decide ((6:Int)=1)=false/\decide ((6:Int)=2)=false/\decide ((6:Int)=3)=false/\decide ((6:Int)=4)=false/\decide ((6:Int)=5)=false/\decide ((6:Int)=6)=true):=by decide
theorem nR{c:ai}(h:ml c=0):c.g=1∨c.g=2∨c.g=3∨c.g=4∨c.g=5∨c.g=6:=vu (T8 h).1
theorem rj{c:ai}(h:ml c=0)(a:c.g=1):jq c.j=0:=by have:=(T8 h).2.1;unfold oB at this;rw[a]at this;exact this
theorem y6{c:ai}(h:ml c=0)(a:c.g=3):gj c.x=0:=by have:=(T8 h).2.1;unfold oB at this;rw[a]at this;exact this
theorem y5{c:ai}(h:ml c=0)(a:c.g=5):fO c.h=0:=by have:=(T8 h).2.1;unfold oB at this;rw[a]at this;exact this
theorem sI(p:eo):fI p p=false:=by
 cases a:fI p p with
 |false=>rfl
 |true=>exact absurd (kR a) (KS _)
theorem Ut{M:aj}(h:Good M)(c:ai):Good (fW c M).2:=by
 unfold fW;by_cases d:ml c=0
 .rw[decide_eq_true d,Bool.not_true,cond_false];have i:=h.c1;have k:=h.c2;have l:=h.c3;have m:=h.c4;rcases nR d with e|e|e|e|e|e;all_goals simp only[e,Mh,decide_true,cond_true,cond_false]
  .cases n:M.u.any (oM c.j.a)
   .simp only[cond_false];cases b:!(xk M.u c.j.a).isSome&&decide (2000<=(M.u.length:Int))
    .simp only[cond_false]
     have g:∀x∈M.u,fI x.a c.j.a=false/\fI c.j.a x.a=false:=fun x hx=>by
      have:=any_eq_false.1 n x hx;simpa [oM]using this
     refine { h with c2:=?_,g1:=?_,g2:=AG h.g2 _,g3:=?_ }
     .show(ins (fun x:ae=>x.a) c.j M.u).length<=2000;rw[KN h.g2];simp only[Bool.and_eq_false_iff,Bool.not_eq_false',decide_eq_false_iff_not]at b;rcases b with b|b
      .rw[if_pos b];omega
      .split <;> omega
     .intro x hx;rcases mem_ins.1 hx with rfl|⟨hx,_⟩
      .exact rj d e
      .exact h.g1 x hx
     .intro x hx y f;rcases mem_ins.1 hx with rfl|⟨hx,_⟩ <;> rcases mem_ins.1 f with rfl|⟨f,_⟩
      .exact sI _
      .exact(g y f).2
      .exact(g x hx).1
      .exact h.g3 x hx y f
    .exact h
   .exact h
  .cases b:!(xk M.u c.j.a).isSome
   .simp only[cond_false];refine { h with c2:=?_,g1:=?_,g2:=BN h.g2 _,g3:=?_ }
    .have:=Mj h.g2 c.j.a;show(lN (fun x:ae=>x.a) c.j.a M.u).length<=2000;omega
    .intro x hx;exact h.g1 x (mem_del.1 hx).1
    .intro x hx y f;exact h.g3 x (mem_del.1 hx).1 y (mem_del.1 f).1
   .exact h
  .cases b:!(vm M.B c.x.r).isSome&&decide (2000<=(M.B.length:Int))
   .simp only[cond_false];refine { h with c3:=?_,s1:=?_,s2:=AG h.s2 _ }
    .show(ins (fun x:ab=>x.r) c.x M.B).length<=2000;rw[KN h.s2];simp only[Bool.and_eq_false_iff,Bool.not_eq_false',decide_eq_false_iff_not]at b;rcases b with b|b
     .rw[if_pos b];omega
     .split <;> omega
    .intro x hx;rcases mem_ins.1 hx with rfl|⟨hx,_⟩
     .exact y6 d e
     .exact h.s1 x hx
   .exact h
  .cases b:!(vm M.B c.x.r).isSome
   .simp only[cond_false];refine { h with c3:=?_,s1:=?_,s2:=BN h.s2 _ }
    .have:=Mj h.s2 c.x.r;show(lN (fun x:ab=>x.r) c.x.r M.B).length<=2000;omega
    .intro x hx;exact h.s1 x (mem_del.1 hx).1
   .exact h
  .cases b:!(yF M.A c.h.C).isSome&&decide (100<=(M.A.length:Int))
   .simp only[cond_false];refine { h with c4:=?_,v1:=?_,v2:=AG h.v2 _ }
    .show(ins (fun x:ah=>x.C) c.h M.A).length<=100;rw[KN h.v2];simp only[Bool.and_eq_false_iff,Bool.not_eq_false',decide_eq_false_iff_not]at b;rcases b with b|b
     .rw[if_pos b];omega
     .split <;> omega
    .intro x hx;rcases mem_ins.1 hx with rfl|⟨hx,_⟩
     .exact y5 d e
     .exact h.v1 x hx
   .exact h
  .cases b:!(yF M.A c.h.C).isSome
   .simp only[cond_false];refine { h with c4:=?_,v1:=?_,v2:=BN h.v2 _ }
    .have:=Mj h.v2 c.h.C;show(lN (fun x:ah=>x.C) c.h.C M.A).length<=100;omega
    .intro x hx;exact h.v1 x (mem_del.1 hx).1
   .exact h
 .rw[decide_eq_false d];exact h
abbrev gF:eo->ae->ae:=fun _ v=>v
abbrev gV:eo->ah->ah:=fun _ v=>v
structure Wr(m1:List (eo×ae))(m2:List (eo×eo))(m3:List (eo×ah))(M:aj):Prop where
 n1:(m1.map (·.1)).Nodup
 n2:(m2.map (·.1)).Nodup
 n3:(m3.map (·.1)).Nodup
 k1:∀k v,zS m1 k=some v->v.a=k
 k3:∀k v,zS m3 k=some v->v.C=k
 e1:mz gF jc m1=M.u
 e2:mz ab.mk [] m2=M.B
 e3:mz gV i9 m3=M.A
theorem sG(l:List ab)(h:l.length<=274877906944):PA l=some l:=by
 unfold PA;refine MZ ⟨false,fun h=>by cases h⟩ fun b a=>?_;cases b with
 |true=>rw[a rfl];rfl
 |false=>rw[cond_false,zj (by simpa using h)];rfl
theorem EG{M:aj}(h:Good M):∃c d e,tQ M=some (c,d,e,M.D)/\Wr c d e M:=by
 have f:=h.c2;have g:=h.c3;have i:=h.c4;refine⟨gn (·.a) id M.u,gn (·.r) (·.Value) M.B,gn (·.C) id M.A,?_,?_⟩
 .unfold tQ;simp only[eJ];refine(iM (key:=fun x:ae=>x.a) (w:=id) (fun _ _ _ _ _=>rfl) h.g2 (by omega)).trans ?_;refine(iM (key:=fun x:ab=>x.r) (w:=fun x=>x.Value) (fun _ _ _ _ _=>rfl) h.s2 (by omega)).trans ?_;exact iM (key:=fun x:ah=>x.C) (w:=id) (fun _ _ _ _ _=>rfl) h.v2 (by omega)
 .refine⟨B4 h.g2,B4 h.s2,B4 h.v2,fun k v b=>?_,fun k v b=>?_,kS h.g2 fun _ _=>rfl,kS h.s2 fun _ _=>rfl,kS h.v2 fun _ _=>rfl⟩
  .rw[BX]at b;obtain⟨x,hx,rfl⟩:=Option.map_eq_some_iff.1 b;exact(qg hx).2
  .rw[BX]at b;obtain⟨x,hx,rfl⟩:=Option.map_eq_some_iff.1 b;exact(qg hx).2
section
variable {m1:List (eo×ae)} {m2:List (eo×eo)} {m3:List (eo×ah)} {M:aj}
theorem Wr.l1(h:Wr m1 m2 m3 M):m1.length=M.u.length:=by rw[<-h.e1,kT]
theorem Wr.l2(h:Wr m1 m2 m3 M):m2.length=M.B.length:=by rw[<-h.e2,kT]
theorem Wr.l3(h:Wr m1 m2 m3 M):m3.length=M.A.length:=by rw[<-h.e3,kT]
theorem Wr.look1(h:Wr m1 m2 m3 M)(k:eo):zS m1 k=xk M.u k:=by
 rw[<-h.e1];refine Eq.trans ?_ (AB (key:=fun x:ae=>x.a) (g:=gF) (d:=jc) h.k1 k).symm;cases zS m1 k <;> rfl
theorem Wr.look2(h:Wr m1 m2 m3 M)(k:eo):(zS m2 k).map (ab.mk k)=vm M.B k:=by rw[<-h.e2];exact(AB (key:=fun x:ab=>x.r) (g:=ab.mk) (fun _ _ _=>rfl) k).symm
theorem Wr.look3(h:Wr m1 m2 m3 M)(k:eo):zS m3 k=yF M.A k:=by
 rw[<-h.e3];refine Eq.trans ?_ (AB (key:=fun x:ah=>x.C) (g:=gV) (d:=i9) h.k3 k).symm;cases zS m3 k <;> rfl
theorem Wr.is2(h:Wr m1 m2 m3 M)(k:eo):(zS m2 k).isSome=(vm M.B k).isSome:=by rw[<-h.look2,Option.isSome_map]
theorem Wr.mem1(h:Wr m1 m2 m3 M){p:eo×ae}(a:p∈m1):p.2∈M.u/\p.2.a=p.1:=by have:=j1 h.n1 a;exact⟨(qg ((h.look1 _).symm.trans this)).1,h.k1 _ _ this⟩
theorem Wr.put1(h:Wr m1 m2 m3 M)(f:ae):Wr (eD m1 f.a f) m2 m3 ⟨M.D,ins (·.a) f M.u,M.B,M.A⟩ :=
 { h with
  n1:=Uw h.n1 _ _
  k1:=fun k v b=>by
   rw[tT]at b;split at b
   .rename_i e;cases b;exact e
   .exact h.k1 _ _ b
  e1:=by rw[<-h.e1];exact VG (key:=fun x:ae=>x.a) (g:=gF) h.n1 h.k1 _ _ rfl }
theorem Wr.put2(h:Wr m1 m2 m3 M)(f:ab):Wr m1 (eD m2 f.r f.Value) m3 ⟨M.D,M.u,ins (·.r) f M.B,M.A⟩ :=
 { h with
  n2:=Uw h.n2 _ _
  e2:=by rw[<-h.e2];exact VG (key:=fun x:ab=>x.r) (g:=ab.mk) h.n2 (fun _ _ _=>rfl) _ _ rfl }
theorem Wr.put3(h:Wr m1 m2 m3 M)(f:ah):Wr m1 m2 (eD m3 f.C f) ⟨M.D,M.u,M.B,ins (·.C) f M.A⟩ :=
 { h with
  n3:=Uw h.n3 _ _
  k3:=fun k v a=>by
   rw[tT]at a;split at a
   .rename_i e;cases a;exact e
   .exact h.k3 _ _ a
  e3:=by rw[<-h.e3];exact VG (key:=fun x:ah=>x.C) (g:=gV) h.n3 h.k3 _ _ rfl }
theorem Wr.del1(h:Wr m1 m2 m3 M)(k:eo):Wr (jm m1 k) m2 m3 ⟨M.D,lN (·.a) k M.u,M.B,M.A⟩ :=
 { h with
  n1:=Uv h.n1 _
  k1:=fun k v b=>by
   rw[MT h.n1]at b;split at b
   .cases b
   .exact h.k1 _ _ b
  e1:=by rw[<-h.e1];exact VQ (key:=fun x:ae=>x.a) (g:=gF) h.n1 h.k1 _ }
theorem Wr.del2(h:Wr m1 m2 m3 M)(k:eo):Wr m1 (jm m2 k) m3 ⟨M.D,M.u,lN (·.r) k M.B,M.A⟩ :=
 { h with
  n2:=Uv h.n2 _
  e2:=by rw[<-h.e2];exact VQ (key:=fun x:ab=>x.r) (g:=ab.mk) h.n2 (fun _ _ _=>rfl) _ }
theorem Wr.del3(h:Wr m1 m2 m3 M)(k:eo):Wr m1 m2 (jm m3 k) ⟨M.D,M.u,M.B,lN (·.C) k M.A⟩ :=
 { h with
  n3:=Uv h.n3 _
  k3:=fun k v a=>by
   rw[MT h.n3]at a;split at a
   .cases a
   .exact h.k3 _ _ a
  e3:=by rw[<-h.e3];exact VQ (key:=fun x:ah=>x.C) (g:=gV) h.n3 h.k3 _ }
theorem pF(h:Wr m1 m2 m3 M)(a:Good M):LR M.D m1 m2 m3=some M:=by have l:=h.l1;have n:=h.l2;have o:=h.l3;have b:=a.c1;have c:=a.c2;have e:=a.c3;have f:=a.c4;have i:U5 m1=some (oD m1):=VF m1 (by omega);have j:U0 m2=some (oD m2):=VF m2 (by omega);have k:U9 m3=some (oD m3):=VF m3 (by omega);unfold LR;simp only[eJ,sG _ (show M.D.length<=274877906944 by omega),zf,i,j,k];refine(WG (g:=gF) (d:=jc) (m:=m1) (fun _ _ _ _ _=>rfl) (by omega)).trans ?_;refine(WG (g:=ab.mk) (d:=[]) (m:=m2) (fun _ _ _ _ _=>rfl) (by omega)).trans ?_;refine(WG (g:=gV) (d:=i9) (m:=m3) (fun _ _ _ _ _=>rfl) (by omega)).trans ?_;rw[h.e1,h.e2,h.e3]
theorem Bv(h:Wr m1 m2 m3 M)(z:Good M)(c:ai)(T:kF c)(o:List ab) :
  ∃a b d,xP c o m1 m2 m3=some ((fW c M).1,a,b,d)/\Wr a b d (fW c M).2:=by
 have O:=h.l1;have U:=h.l2;have V:=h.l3;have W:=z.c1;have Z:=z.c2;have hc3:=z.c3;have hc4:=z.c4;unfold xP fW;rw[YJ c T,zf];by_cases I:ml c=0
 .rw[decide_eq_true I,Bool.not_true,cond_false];simp only[eJ,fc,h.look1,h.look3,h.is2,O,U,V];rcases nR I with e|e|e|e|e|e;all_goals simp only[e,Mh,decide_true,cond_true,cond_false]
  .have P:=EH (Nc (rj I e)).1
   have D:∀(X:Int×List (eo×ae)×List (eo×eo)×List (eo×ah)) (k:Unit->Option (Int×List (eo×ae)×List (eo×eo)×List (eo×ah))) (Y:Int×List (eo×ae)×List (eo×eo)×List (eo×ah)),k ()=some Y ->
     forM (fun(l:eo×ae) (s:Unit) q J =>
      call (tg l.1 c.j.a) fun m =>
      callG (!m) (tg c.j.a l.1) false fun v =>
      bif (m||v)then some X else q ()) M.u.length m1 () k=some (bif M.u.any (oM c.j.a)then X else Y):=by
    intro X k Y hk;have E:M.u.any (oM c.j.a)=m1.any fun p=>oM c.j.a p.2:=by
     rw[Bool.eq_iff_iff];simp only[any_eq_true];constructor
     .rintro⟨x,hx,w⟩;exact⟨(x.a,x),ky ((h.look1 _).trans (lr z.g2 hx)),w⟩
     .rintro⟨p,K,w⟩;exact⟨p.2,(h.mem1 K).1,w⟩
    rw[E];refine Ub (fun r _=>(∀p∈r,p∈m1)/\(m1.any fun p=>oM c.j.a p.2)=r.any fun p=>oM c.j.a p.2) (fun s hs=>?_) (fun r s nx x j F hx L=>?_) _ _ _ O ⟨fun _ h=>h,rfl⟩
    .rw[hs.2];exact hk
    .have N:=F.1 x (mem_of_getElem? hx);obtain⟨q1,Q⟩:=h.mem1 N;have hl:=EH (Nc (z.g1 _ q1)).1;rw[Q]at hl;rw[La _ _ (by omega),La _ _ (by omega),zf,zH];have g:oM c.j.a x.2=(fI x.1 c.j.a||fI c.j.a x.1):=by unfold oM;rw[Q]
     have t:=UT hx;have f:(r.any fun p=>oM c.j.a p.2)=(oM c.j.a x.2||(r.eraseIdx j).any fun p=>oM c.j.a p.2):=by
      rw[Bool.eq_iff_iff];simp only[Bool.or_eq_true,any_eq_true];constructor
      .rintro⟨y,G,i⟩;rcases mem_cons.1 (t.mem_iff.1 G)with rfl|G
       .exact .inl i
       .exact .inr ⟨y,G,i⟩
      .rintro(i|⟨y,G,i⟩)
       .exact⟨x,t.mem_iff.2 (mem_cons_self ..),i⟩
       .exact⟨y,t.mem_iff.2 (mem_cons_of_mem _ G),i⟩
     cases R:fI x.1 c.j.a with
     |true =>
      rw[R,Bool.true_or]at g;rw[Bool.true_or,cond_true,F.2,f,g,Bool.true_or,cond_true]
     |false =>
      rw[R,Bool.false_or]at g;rw[Bool.false_or,Bool.not_false,cond_true];cases S:fI c.j.a x.1 with
      |true =>
       rw[S]at g;rw[cond_true,F.2,f,g,Bool.true_or,cond_true]
      |false =>
       rw[S]at g;rw[g,Bool.false_or]at f;rw[cond_false];exact L () ⟨fun p P=>F.1 p (t.mem_iff.2 (mem_cons_of_mem _ P)),F.2.trans f⟩
   have H:=AM m1 c.j.a c.j;have n:(eD m1 c.j.a c.j).length<=274877906944:=by split at H <;> omega
   rw[zj n];rw[D _ _ (bif !(xk M.u c.j.a).isSome&&decide (2000<=(M.u.length:Int))then(4,m1,m2,m3)else(0,eD m1 c.j.a c.j,m2,m3)) (oN _ _ _)];cases M.u.any (oM c.j.a)
   .simp only[cond_false];cases !(xk M.u c.j.a).isSome&&decide (2000<=(M.u.length:Int))
    .exact⟨_,_,_,rfl,h.put1 _⟩
    .exact⟨_,_,_,rfl,h⟩
   .exact⟨_,_,_,rfl,h⟩
  .cases (xk M.u c.j.a).isSome
   .exact⟨_,_,_,rfl,h⟩
   .exact⟨_,_,_,rfl,h.del1 _⟩
  .have H:=AM m2 c.x.r c.x.Value;have n:(eD m2 c.x.r c.x.Value).length<=274877906944:=by split at H <;> omega
   rw[zj n];cases !(vm M.B c.x.r).isSome&&decide (2000<=(M.B.length:Int))
   .exact⟨_,_,_,rfl,h.put2 _⟩
   .exact⟨_,_,_,rfl,h⟩
  .cases (vm M.B c.x.r).isSome
   .exact⟨_,_,_,rfl,h⟩
   .exact⟨_,_,_,rfl,h.del2 _⟩
  .have H:=AM m3 c.h.C c.h;have n:(eD m3 c.h.C c.h).length<=274877906944:=by split at H <;> omega
   rw[zj n];cases !(yF M.A c.h.C).isSome&&decide (100<=(M.A.length:Int))
   .exact⟨_,_,_,rfl,h.put3 _⟩
   .exact⟨_,_,_,rfl,h⟩
  .cases (yF M.A c.h.C).isSome
   .exact⟨_,_,_,rfl,h⟩
   .exact⟨_,_,_,rfl,h.del3 _⟩
 .rw[decide_eq_false I];exact⟨_,_,_,rfl,h⟩
end
theorem WD(c:ai)(M:aj):(fW c M).2.D=M.D:=by
 unfold fW;generalize a:(!decide (ml c=0))=b;generalize decide (c.g=2)=d;generalize decide (c.g=4)=e;generalize decide (c.g=6)=f;generalize decide (c.g=1)=h;generalize decide (c.g=3)=i;cases b <;> cases d <;> cases e <;> cases f <;> cases h <;> cases i <;> simp only[cond_true,cond_false] <;> (first|rfl|(split <;> rfl)|skip)
 all_goals repeat' (first|rfl|(rw[Bool.cond_eq_ite];split))
theorem Yu(M:aj)(z:Bx M)(l:List ai)(A:∀c∈l,kF c):AD M l=some (lX M l):=by
 unfold AD lX;rw[Ln M z,zf];by_cases q:xw M=0
 .rw[decide_eq_true q,Bool.not_true,cond_false,cond_false];have u:=(MD M).1 q;obtain⟨m1,m2,m3,e,m⟩:=EG u;rw[e,zf];simp only[eJ]
  have:∀(l:List ai) (i:Nat) (m1:List (eo×ae)) (m2:List (eo×eo)) (m3:List (eo×ah)) (N:aj),(∀c∈l,kF c)->Good N->N.D=M.D->Wr m1 m2 m3 N ->
    forL l i (fun v n s k w =>
     match s with
     |(g,h,j) =>
      call (xP n M.D g h j) fun f =>
      bif !decide (f.1=0)then
       some ((aj.mk [] [] [] []),f.1)
      else
      k (f.2.1,f.2.2.1,f.2.2.2)) (m1,m2,m3) (fun s=>match s with
     |(g,h,j) =>
      call (LR M.D g h j) fun o =>
       some (o,(0:Int)))=some (tM l N):=by
   intro l;induction l with
   |nil =>
    intro i m1 m2 m3 N _ p r m;unfold forL;simp only;rw[<-r,pF m p,zf];rfl
   |cons c l B =>
    intro i m1 m2 m3 N y p r m;unfold forL;simp only;obtain⟨a,b,d,e,t⟩:=Bv m p c (y c (mem_cons_self ..)) M.D;rw[e,zf];simp only[tM];rw[B _ _ _ _ _ (fun x hx=>y x (mem_cons_of_mem _ hx)) (Ut p c) ((WD c N).trans r) t];exact oN _ _ _
  exact this l 0 m1 m2 m3 M A u rfl m
 .rw[decide_eq_false q];rfl
def Ends{Z:Type}(m:Option Z)(P:Z->Prop):Prop:=∃z,m=some z/\P z
section
variable {Z A S α:Type} {P:Z->Prop}
theorem Ends.call{a:Option A}{k:A->Option Z}{Q:A->Prop}(h:Ends a Q)(b:∀x,Q x->Ends (k x) P):Ends (Vc.call a k) P:=by obtain⟨x,rfl,hx⟩:=h;exact b x hx
theorem mh{f:Nat->α->S->(S->Option Z)->(S->Option Z)->Option Z}{k:S->Option Z}(a:Nat->List α->S->Prop)
  (c:∀i s,a i [] s->Ends (k s) P) (d:∀i x l s nx,a i (x::l) s->(∀b,a (i+1) l b->Ends (nx b) P)->Ends (f i x s nx k) P) :
  ∀(l:List α) (i:Nat) (s:S),a i l s->Ends (forL l i f s k) P
 |[],i,s,h=>c i s h
 |x::l,i,s,h=>d i x l s _ h fun b e=>mh a c d l (i+1) b e
theorem VV{f:S->(S->Option Z)->(S->Option Z)->Option Z}{k:S->Option Z}(a:S->Prop)(c:S->Nat)
  (h:∀s nx,a s->(∀b,a b->c b<c s->Ends (nx b) P)->Ends (f s nx k) P):∀(N:Nat) (s:S),a s->c s<N->Ends (loopN N f s k) P
 |0,s,_,e=>by omega
 |N+1,s,hi,e=>by
  unfold loopN;exact h s _ hi fun b d g=>VV a c h N b d (by omega)
theorem Lk{f:S->(S->Option Z)->(S->Option Z)->Option Z}{k:S->Option Z}(a:S->Prop)(b:S->Nat)
  (h:∀s nx,a s->(∀c,a c->b c<b s->Ends (nx c) P)->Ends (f s nx k) P) (s:S) (hi:a s) (g:b s<1099511627776):Ends (loopN fv f s k) P:=by
 obtain⟨N,d⟩:∃N,fv=N:=⟨_,rfl⟩;have e:1099511627776<=N:=d ▸ xa;rw[d];exact VV a b h N s hi (by omega)
end
abbrev eT(o:List ab)(p:Nat):eo:=(o.getD p (ab.mk [] [])).r
theorem yZ(a b:ab):Ul a b=some (eU a.r b.r):=rfl
theorem VD{α:Type}(o:List α)(i p:Nat)(x d:α)(h:i<o.length):(o.set i x).getD p d=if i=p then x else o.getD p d:=by
 simp only[getD_eq_getElem?_getD,getElem?_set];by_cases e:i=p
 .subst e;simp[h]
 .simp[e]
theorem Uc{α:Type}(o:List α)(i:Nat)(d:α)(h:i<o.length):o.getD i d∈o:=by simp only[getD_eq_getElem?_getD,getElem?_eq_getElem h,Option.getD_some];exact getElem_mem h
structure l7(o0 o:List ab):Prop where
 len:o.length=o0.length
 sub:∀x∈o,x∈o0
 ord:∀p q,p<q->q<o.length->¬ eT o q<eT o p
theorem qQ(f:List ab)(O:f.length<=1073741824):Ends (zx 0 (f.length:Int) f) (l7 f):=by
 unfold zx;rw[show IntKind.i64.wrap ((0:Int)+1)=((1:Nat):Int)from rfl];refine Lk (fun b:Int×List ab=>∃i:Nat,b.1=i/\1<=i/\(i<=f.length∨i=1)/\b.2.length=f.length/\(∀x∈b.2,x∈f)/\∀p q,p<q->q<i->q<f.length->¬ eT b.2 q<eT b.2 p) (fun b=>f.length-b.1.toNat) ?_ _ ⟨1,rfl,by omega,by omega,rfl,fun _ h=>h,fun p q k s=>by omega⟩ (by simp only;omega);rintro⟨P,o⟩ nx ⟨i,rfl,K,hi,C,D,E⟩ v;simp only at C D E v|-;by_cases L:i<f.length
 .rw[decide_eq_true (by omega),cond_true,eJ];refine Lk (fun b:Int×List ab=>∃j:Nat,b.1=j/\j<=i/\b.2.length=f.length/\(∀x∈b.2,x∈f)/\∀p q,p<q->q<=i->q≠j->¬ eT b.2 q<eT b.2 p) (fun b=>b.1.toNat) ?_ _ ⟨i,rfl,Nat.le_refl _,C,D,fun p q k s F=>E p q k (by omega) (by omega)⟩ (by simp only;omega);rintro⟨Q,a⟩ M ⟨j,rfl,R,t,g,c⟩ l;simp only at t g c l|-
  have m:(j=0∨¬ eT a j<eT a (j-1))->Ends (nx (IntKind.i64.wrap ((i:Int)+1),a)) (l7 f):=by
   intro d;rw[fJ i (by omega)];refine v _ ⟨i+1,rfl,by omega,by omega,t,g,fun p q k s F=>?_⟩ (by simp only;omega);by_cases n:q=j
   .subst n;rcases d with d|d
    .omega
    .by_cases u:p=q-1
     .rw[u];exact d
     .have I:=c p (q-1) (by omega) (by omega) (by omega);intro J;rcases KT (eT a q) (eT a (q-1))with w|w|w
      .exact d w
      .exact I (w ▸ J)
      .exact I (Lg w J)
   .exact c p q k (by omega) n
  by_cases d:0<j
  .have N:IntKind.i64.wrap ((j:Int)-1)=((j-1:Nat):Int):=AC _ d (by omega);simp only[N];rw[decide_eq_true (by omega),zj (by intro _;omega),zj (by intro _;omega),AQ,yZ,zf,Bool.true_and,Ag];simp only[Int.toNat_natCast];by_cases z:eT a j<eT a (j-1)
   .rw[decide_eq_true z,cond_true,zj (by omega),zj (by omega),zj (by omega),zj (by simp only[length_set];omega)];refine l _ ⟨j-1,rfl,by omega,by simpa using t,fun x hx=>?_,fun p q k s F=>?_⟩ (by simp only;omega)
    .rcases mem_or_eq_of_mem_set hx with hx|rfl
     .rcases mem_or_eq_of_mem_set hx with hx|rfl
      .exact g x hx
      .exact g _ (Uc _ _ _ (by omega))
     .exact g _ (Uc _ _ _ (by omega))
    .have r:∀p,eT ((a.set j (a.getD (j-1) (ab.mk [] []))).set (j-1) (a.getD j (ab.mk [] []))) p=if p=j-1 then eT a j else if p=j then eT a (j-1)else eT a p:=by
      intro p;unfold eT;rw[VD _ _ _ _ _ (by simp only[length_set];omega),VD _ _ _ _ _ (by omega)];by_cases A:j-1=p
      .rw[if_pos A,if_pos A.symm]
      .have G:¬ p=j-1:=fun e=>A e.symm;rw[if_neg A,if_neg G];by_cases B:j=p
       .rw[if_pos B,if_pos B.symm]
       .have H:¬ p=j:=fun e=>B e.symm;rw[if_neg B,if_neg H]
     show ¬ eT ((a.set j (a.getD (j-1) (ab.mk [] []))).set (j-1) (a.getD j (ab.mk [] []))) q<eT ((a.set j (a.getD (j-1) (ab.mk [] []))).set (j-1) (a.getD j (ab.mk [] []))) p;rw[r,r,if_neg F];by_cases n:q=j
     .subst n;rw[if_pos rfl];by_cases u:p=q-1
      .rw[if_pos u];exact Uq z
      .rw[if_neg u,if_neg (by omega)];exact c p (q-1) (by omega) (by omega) (by omega)
     .rw[if_neg n];by_cases u:p=j-1
      .rw[if_pos u];exact c j q (by omega) s n
      .rw[if_neg u];by_cases y:p=j
       .rw[if_pos y];exact c (j-1) q (by omega) s n
       .rw[if_neg y];exact c p q k s n
   .rw[decide_eq_false z,cond_false];exact m (.inr z)
  .rw[decide_eq_false (by omega),zj (by intro h;cases h),zj (by intro h;cases h),UL,Bool.false_and,cond_false];exact m (.inl (by omega))
 .rw[decide_eq_false (by omega),cond_false];exact⟨_,rfl,C,D,fun p q k s=>E p q k (by omega) (by omega)⟩
theorem so(o:List ab):zx 20 20 o=some o:=by unfold zx;obtain⟨N,a⟩:∃N,fv=N+1:=⟨1099511627775,rfl⟩;rw[a];unfold loopN;rfl
theorem m9{Z S:Type}{f:S->(S->Option Z)->(S->Option Z)->Option Z}{k:S->Option Z}{s:S}(h:∀nx,f s nx k=k s):loopN fv f s k=k s:=by obtain⟨N,a⟩:∃N,fv=N+1:=⟨1099511627775,rfl⟩;rw[a];unfold loopN;exact h _
theorem ph(a:List ab)(h:a.length<=20):Ends (zK a) (l7 a):=by
 unfold zK Vk;refine Ends.call (Q:=l7 a) ?_ fun x hx=>⟨x,rfl,hx⟩;rw[eJ];by_cases d:a.length=20
 .obtain⟨o,e,f⟩:=qQ a (by omega);rw[d]at e|-;have g:zx 0 20 a=some o:=e;refine Lk (fun b:Int×Int×List ab=>(b=(0,20,a))∨b=(20,40,o)) (fun b=>40-b.2.1.toNat) ?_ _ (.inl rfl) (by simp only;omega);rintro b nx (rfl|rfl) c
  .simp only;rw[decide_eq_true (by omega),cond_true,g,zf];exact c _ (.inr rfl) (show 40-(IntKind.i64.wrap (20+20)).toNat<40-(20:Int).toNat by decide)
  .simp only;rw[decide_eq_false (by omega),cond_false];refine Ends.call (Q:=fun x=>x=o) ⟨o,so o,rfl⟩ ?_;rintro x rfl;rw[m9 (fun nx=>by simp only;rw[decide_eq_false (by omega),cond_false])];exact⟨_,rfl,f⟩
 .refine Lk (fun b:Int×Int×List ab=>b=(0,20,a)) (fun b=>0) ?_ _ rfl (by omega);rintro b nx rfl c;simp only;rw[decide_eq_false (by omega),cond_false];refine Ends.call (qQ a (by omega)) fun o f=>?_;rw[m9 (fun nx=>by simp only;rw[decide_eq_false (by omega),cond_false])];exact⟨_,rfl,f⟩
def fR(z:Nat×Nat×List ab):List ab:=List.take z.2.1 (List.drop z.1 z.2.2)
structure s8(o:List ab)(z:Nat×Nat×List ab):Prop where
 len:(fR z).length<=o.length
 sub:∀x∈fR z,x∈o
 srt:fB (·.r) (fR z)
theorem rb(a b:ab):MM a b=some (decide (a.r=b.r)):=rfl
theorem Wt{l:List ab}(h:∀p q,p<q->q<l.length->eT l p<eT l q):fB (·.r) l:=by
 unfold fB;rw[pairwise_iff_getElem];intro i j hi b a;have:=h i j a b;simpa [eT,getD_eq_getElem?_getD,hi,b]using this
theorem no{o:List ab}{n p:Nat}(h:p<n):eT (o.take n) p=eT o p:=by simp[eT,getD_eq_getElem?_getD,getElem?_take,h]
theorem Ae(o:List ab)(W:o.length<=1073741824)(H:∀p q,p<q->q<o.length->¬ eT o q<eT o p) :
  Ends (zN o) (s8 o):=by
 unfold zN;have K:List.take o.length o=o:=by simp
 rw[K];by_cases w:(o.length:Int)<2
 .rw[decide_eq_true w,cond_true];refine⟨_,rfl,?_,?_,?_⟩
  .simp[fR]
  .intro x hx;simpa [fR]using hx
  .refine Wt fun p q l n=>?_;simp[fR]at n;omega
 .rw[decide_eq_false w,cond_false,eJ];refine Lk (fun k:Int=>∃i:Nat,k=i/\1<=i/\i<=o.length/\∀p q,p<q->q<i->eT o p<eT o q) (fun k=>o.length-k.toNat) ?_ _ ⟨1,rfl,Nat.le_refl _,by omega,fun p q I w=>by omega⟩ (by omega);rintro X nx ⟨K0,rfl,C,L,y⟩ D;by_cases M:K0<o.length
  .have N:IntKind.i64.wrap ((K0:Int)-1)=((K0-1:Nat):Int):=AC _ C (by omega);simp only[N,Int.toNat_natCast,Nat.zero_add];rw[decide_eq_true (by omega),cond_true,eJ,zj (by omega),zj (by omega),rb,zf];by_cases z:eT o K0=eT o (K0-1)
   .rw[decide_eq_true z,cond_true,zj (by omega),eJ]
    refine Lk (fun c:Int×Int×List ab=>∃k a:Nat,c.1=k/\c.2.1=a/\K0<=k/\1<=a/\k+1<=K0+a/\K0+a<=o.length/\c.2.2.length=o.length/\(∀x∈c.2.2,x∈o) /\
      (∀p,K0+a<=p+1->eT c.2.2 p=eT o p/\c.2.2.getD p (ab.mk [] [])=o.getD p (ab.mk [] []))/\(∀p q,p<q->q<k->eT c.2.2 p<eT c.2.2 q)/\eT c.2.2 (k-1)=eT o (K0+a-1)) (fun c=>o.length-c.2.1.toNat) ?_ _
     ⟨K0,1,rfl,rfl,Nat.le_refl _,Nat.le_refl _,Nat.le_refl _,by omega,rfl,fun _ h=>h,fun _ _=>⟨rfl,rfl⟩,y,by simpa using z.symm⟩ (by simp only;omega)
    rintro⟨Y,O,b⟩ P ⟨k,a,rfl,rfl,Q,R,Z,q4,A,q6,s,t,B⟩ d;simp only at A q6 s t B d|-;have J:(List.take (o.length-K0) (List.drop K0 b)).length=o.length-K0:=by simp[A]
    by_cases S:K0+a<o.length
    .have E:IntKind.i64.wrap ((a:Int)-1)=((a-1:Nat):Int):=AC _ R (by omega);simp only[E,Int.toNat_natCast];rw[decide_eq_true (by omega),cond_true,zj (by omega),zj (by omega),zj (by omega),zj (by omega),rb,zf];have T:K0+(a-1)=K0+a-1:=by omega
     have F:=(s (K0+a) (by omega)).1;have U:=(s (K0+a-1) (by omega)).1;have u:decide ((ab.mk ((b.getD (K0+a) (ab.mk [] [])).r) ((b.getD (K0+a) (ab.mk [] [])).Value)).r=(ab.mk ((b.getD (K0+(a-1)) (ab.mk [] [])).r) ((b.getD (K0+(a-1)) (ab.mk [] [])).Value)).r)=decide (eT o (K0+a)=eT o (K0+a-1)):=by
      simp only[T];show decide (eT b (K0+a)=eT b (K0+a-1))=_;rw[F,U]
     rw[u];by_cases m:eT o (K0+a)=eT o (K0+a-1)
     .rw[decide_eq_true m,Bool.not_true,cond_false,fJ a (by omega)];refine d _ ⟨k,a+1,rfl,rfl,Q,by omega,by omega,by omega,A,q6,fun p l=>s p (by omega),t,?_⟩ (by simp only;omega);simp only;rw[B,show K0+(a+1)-1=K0+a by omega,m]
     .rw[decide_eq_false m,Bool.not_false,cond_true,zj (by omega),zj (by omega),zj (by omega),zj (by omega),fJ a (by omega),fJ k (by omega)]
      have f:eT o (K0+a-1)<eT o (K0+a):=by
       rcases KT (eT o (K0+a-1)) (eT o (K0+a))with h|h|h
       .exact h
       .exact absurd h.symm m
       .exact absurd h (H _ _ (by omega) (by omega))
      have g:∀p,(b.set k (ab.mk ((b.getD (K0+a) (ab.mk [] [])).r) ((b.getD (K0+a) (ab.mk [] [])).Value))).getD p (ab.mk [] [])=if k=p then b.getD (K0+a) (ab.mk [] [])else b.getD p (ab.mk [] []):=by intro p;rw[VD _ _ _ _ _ (by omega)]
      refine d _ ⟨k+1,a+1,rfl,rfl,by omega,by omega,by omega,by omega,by simpa using A,fun x hx=>?_,fun p l=>?_,fun p q l n=>?_,?_⟩ (by simp only;omega)
      .rcases mem_or_eq_of_mem_set hx with hx|rfl
       .exact q6 x hx
       .exact q6 _ (Uc _ _ _ (by omega))
      .simp only[eT,g];rw[if_neg (by omega)];exact s p (by omega)
      .simp only[eT,g];rw[if_neg (by omega)];by_cases v:q=k
       .subst v;rw[if_pos rfl];show eT b p<eT b (K0+a);rw[F];by_cases G:p=q-1
        .subst G;rw[B];exact f
        .have:=t p (q-1) (by omega) (by omega);rw[B]at this;exact Lg this f
       .rw[if_neg (fun e=>v e.symm)];exact t p q l (by omega)
      .simp only[eT,g];rw[if_pos (by omega)];show eT b (K0+a)=eT o (K0+(a+1)-1);rw[F];rfl
    .rw[decide_eq_false (by omega),cond_false,zj (by omega),zj (by omega)];have j:fR (0,k,List.take k b++List.replicate (o.length-k) (ab.mk [] [])++List.drop (k+(o.length-k)) b)=b.take k:=by unfold fR;simp only[drop_zero,append_assoc];rw[take_append_of_le_length (by simp only[length_take];omega),take_take,Nat.min_self]
     refine⟨_,rfl,?_,?_,?_⟩
     .show(fR (0,k,_)).length<=_;rw[Int.toNat_natCast,j,length_take];omega
     .show ∀x∈fR (0,k,_),_;rw[Int.toNat_natCast,j];exact fun x hx=>q6 x (mem_of_mem_take hx)
     .show fB _ (fR (0,k,_));rw[Int.toNat_natCast,j];refine Wt fun p q l n=>?_;rw[length_take]at n;rw[no (by omega),no (by omega)];exact t p q l (by omega)
   .rw[decide_eq_false z,cond_false,fJ K0 (by omega)];refine D _ ⟨K0+1,rfl,by omega,by omega,fun p q I w=>?_⟩ (by omega)
    have f:eT o (K0-1)<eT o K0:=by
     rcases KT (eT o (K0-1)) (eT o K0)with h|h|h
     .exact h
     .exact absurd h.symm z
     .exact absurd h (H _ _ (by omega) (by omega))
    by_cases n:q=K0
    .subst n;by_cases l:p=q-1
     .subst l;exact f
     .exact Lg (y p (q-1) (by omega) (by omega)) f
    .exact y p q I (by omega)
  .rw[decide_eq_false (by omega),cond_false];refine⟨_,rfl,?_,?_,?_⟩
   .simp[fR]
   .intro x hx;simpa [fR]using hx
   .have V:fR (0,o.length,o)=o:=by simp[fR]
    show fB _ (fR (0,o.length,o));rw[V];exact Wt fun p q l n=>y p q l (by omega)
structure Fw(a b d:Nat)(M:aj):Prop where
 good:Good M
 facts:M.D.length<=20
 files:M.u.length<=a
 data:∀f∈M.u,f.F.length<=3000
 sets:M.B.length<=b
 svcs:M.A.length<=d
def tE(f:ae):ai:=⟨1,f,⟨[],[]⟩,⟨[],[],false,false⟩⟩
def wX(s:ab):ai:=⟨3,⟨[],[],false⟩,s,⟨[],[],false,false⟩⟩
def wY(s:ah):ai:=⟨5,⟨[],[],false⟩,⟨[],[]⟩,s⟩
theorem yY(c:ai)(b:kF c)(M:aj)(h:Good M):AZ c M.D M.u M.B M.A=some (bif decide ((fW c M).1=0)then((fW c M).2.D,(fW c M).2.u,(fW c M).2.B,(fW c M).2.A)else(M.D,M.u,M.B,M.A)):=by
 unfold AZ;rw[Yu _ h.fit [c] (fun x hx=>by rcases mem_cons.1 hx with rfl|hx;exact b;cases hx),zf];unfold lX;rw[decide_eq_true ((MD M).2 h),Bool.not_true,cond_false];unfold tM tM;by_cases a:(fW c M).1=0
 .rw[decide_eq_true a];rfl
 .rw[decide_eq_false a];simp only[Bool.not_false,cond_true];rw[decide_eq_false a];rfl
section
variable {a b d:Nat} {M:aj}
theorem Fw.next(h:Fw a b d M)(c:ai):Good (fW c M).2/\(fW c M).2.D.length<=20:=⟨Ut h.good c,by rw[WD];exact h.facts⟩
theorem uu(f:ae)(M:aj):(fW (tE f) M).2=M∨(fW (tE f) M).2=⟨M.D,ins (·.a) f M.u,M.B,M.A⟩:=by
 unfold fW;have b:(tE f).g=1:=rfl;rw[b];simp only[Mh,decide_true,cond_true,cond_false];cases !decide (ml (tE f)=0)
 .cases M.u.any (oM (tE f).j.a)
  .cases !(xk M.u (tE f).j.a).isSome&&decide (2000<=(M.u.length:Int))
   .exact .inr rfl
   .exact .inl rfl
  .exact .inl rfl
 .exact .inl rfl
theorem ut(f:ab)(M:aj):(fW (wX f) M).2=M∨(fW (wX f) M).2=⟨M.D,M.u,ins (·.r) f M.B,M.A⟩:=by
 unfold fW;have a:(wX f).g=3:=rfl;rw[a];simp only[Mh,decide_true,cond_true,cond_false];cases !decide (ml (wX f)=0)
 .cases !(vm M.B (wX f).x.r).isSome&&decide (2000<=(M.B.length:Int))
  .exact .inr rfl
  .exact .inl rfl
 .exact .inl rfl
theorem us(f:ah)(M:aj):(fW (wY f) M).2=M∨(fW (wY f) M).2=⟨M.D,M.u,M.B,ins (·.C) f M.A⟩:=by
 unfold fW;have a:(wY f).g=5:=rfl;rw[a];simp only[Mh,decide_true,cond_true,cond_false];cases !decide (ml (wY f)=0)
 .cases !(yF M.A (wY f).h.C).isSome&&decide (100<=(M.A.length:Int))
  .exact .inr rfl
  .exact .inl rfl
 .exact .inl rfl
theorem Fw.put(h:Fw a b d M)(f:ae)(i:f.F.length<=3000):Fw (a+1) b d (fW (tE f) M).2:=by
 obtain⟨c,g⟩:=h.next (tE f);rcases uu f M with e|e <;> rw[e]at c g|-
 .exact⟨c,g,by have:=h.files;omega,h.data,h.sets,h.svcs⟩
 .refine⟨c,g,?_,fun x hx=>?_,h.sets,h.svcs⟩
  .have:=h.files;show(ins (fun x:ae=>x.a) f M.u).length<=_;rw[KN h.good.g2];split <;> omega
  .rcases mem_ins.1 hx with rfl|⟨hx,_⟩
   .exact i
   .exact h.data x hx
theorem Fw.set(h:Fw a b d M)(f:ab):Fw a (b+1) d (fW (wX f) M).2:=by
 obtain⟨c,g⟩:=h.next (wX f);rcases ut f M with e|e <;> rw[e]at c g|-
 .exact⟨c,g,h.files,h.data,by have:=h.sets;omega,h.svcs⟩
 .refine⟨c,g,h.files,h.data,?_,h.svcs⟩;have:=h.sets;show(ins (fun x:ab=>x.r) f M.B).length<=_;rw[KN h.good.s2];split <;> omega
theorem Fw.svc(h:Fw a b d M)(f:ah):Fw a b (d+1) (fW (wY f) M).2:=by
 obtain⟨c,g⟩:=h.next (wY f);rcases us f M with e|e <;> rw[e]at c g|-
 .exact⟨c,g,h.files,h.data,h.sets,by have:=h.svcs;omega⟩
 .refine⟨c,g,h.files,h.data,h.sets,?_⟩;have:=h.svcs;show(ins (fun x:ah=>x.C) f M.A).length<=_;rw[KN h.good.v2];split <;> omega
end
abbrev M4:=List ab×List ae×List ab×List ah
def m4(M:aj):M4:=(M.D,M.u,M.B,M.A)
theorem VA{a b d:Nat}{M:aj}(h:Fw a b d M){c:ai}(i:kF c){e f g:Nat}(j:Fw e f g (fW c M).2)(k:a<=e)(l:b<=f)(m:d<=g) :
  Ends (AZ c M.D M.u M.B M.A) fun r=>∃N,r=m4 N/\Fw e f g N:=by
 refine⟨_,yY c i M h.good,?_⟩;cases decide ((fW c M).1=0)
 .exact⟨M,rfl,h.good,h.facts,Nat.le_trans h.files k,h.data,Nat.le_trans h.sets l,Nat.le_trans h.svcs m⟩
 .exact⟨_,rfl,j⟩
theorem k8{Z α:Type}{P:Z->Prop}{f:Nat->α->M4->(M4->Option Z)->(M4->Option Z)->Option Z}{k:M4->Option Z}(F:Nat->aj->Prop)(n0:Nat)(Q:α->Prop)
  (d:∀n M,n<=n0->F n M->Ends (k (m4 M)) P) (e:∀i x nx k n M,Q x->F n M->(∀N,F (n+1) N->Ends (nx (m4 N)) P)->Ends (f i x (m4 M) nx k) P) (l:List α) (t:l.length<=n0) (g:∀x∈l,Q x) {M:aj} (j:F 0 M) :
  Ends (forL l 0 f (m4 M) k) P:=by
 refine mh (fun i r m=>∃M,m=m4 M/\F i M/\(∀x∈r,Q x)/\i+r.length=l.length) (fun i s h=>?_) (fun i x r s nx h b=>?_) l 0 _ ⟨M,rfl,j,g,by omega⟩
 .obtain⟨M,rfl,c,_,a⟩:=h;exact d i M (by simp at a;omega) c
 .obtain⟨M,rfl,c,a,o⟩:=h;exact e i x nx k i M (a x (mem_cons_self ..)) c fun N p=>b _ ⟨N,rfl,p,fun y q=>a y (mem_cons_of_mem _ q),by simp only[length_cons]at o;omega⟩
theorem vL(m:aj)(g:Bx m):Ends (L3 m) (Fw 40 40 40):=by
 have C:=g.facts;have E:=g.files;have H:=g.sets;have I:=g.svcs;unfold L3;rw[eJ];refine mh (fun i r o=>o.length<=20/\o.length<=i/\i+r.length=m.D.length/\∀x∈o,s9 x=0) (fun i o h=>?_) (fun i x r o nx h d=>?_) m.D 0 [] ⟨by simp,by simp,by simp,by simp⟩
 .obtain⟨v,_,_,w⟩:=h;refine Ends.call (ph o v) fun J u=>?_;refine Ends.call (Ae J (by have:=u.len;omega) u.ord) fun z hz=>?_;have K:=hz.len;have L:=u.len;have O:Fw 0 0 0 ⟨fR z,[],[],[]⟩:=by refine⟨⟨by simp only;omega,by simp,by simp,by simp,fun x hx=>w x (u.sub x (hz.sub x hx)),hz.srt,by simp,by simp[fB],by simp,by simp,by simp[fB],by simp,by simp[fB]⟩,by simp only;omega,by simp,by simp,by simp,by simp⟩
  rw[eJ,zj (by omega)];refine k8 (F:=fun n M=>Fw n 0 0 M) (n0:=40) (Q:=fun f:ae=>Sm f.a) (fun n M p b=>?_) (fun i f nx k n M q b d=>?_) _ (by simp only[length_take];omega) (fun x hx=>g.fp x (mem_of_mem_take hx)) O
  .have e:Fw 40 0 0 M:=⟨b.good,b.facts,Nat.le_trans b.files p,b.data,b.sets,b.svcs⟩;show Ends (jp _ _) _;rw[eJ,zj (by omega)];refine k8 (F:=fun n M=>Fw 40 n 0 M) (n0:=40) (Q:=fun f:ab=>Sm f.r) (fun n M p b=>?_) (fun i f nx k n M q b d=>?_) _ (by simp only[length_take];omega) (fun x hx=>g.sp x (mem_of_mem_take hx)) e
   .have e:Fw 40 40 0 M:=⟨b.good,b.facts,b.files,b.data,Nat.le_trans b.sets p,b.svcs⟩;show Ends (jp _ _) _;rw[eJ,zj (by omega)];refine k8 (F:=fun n M=>Fw 40 40 n M) (n0:=40) (Q:=fun f:ah=>Sm f.a) (fun n M p b=>?_) (fun i f nx k n M q b d=>?_) _ (by simp only[length_take];omega) (fun x hx=>g.vp x (mem_of_mem_take hx)) e
    .exact⟨_,rfl,b.good,b.facts,b.files,b.data,b.sets,Nat.le_trans b.svcs p⟩
    .show Ends (call _ _) _;refine Ends.call (VA b (c:=wY f) ⟨by simp[Sm,wY],by simp[Sm,wY],q⟩ (b.svc f) (Nat.le_refl _) (Nat.le_refl _) (Nat.le_succ _)) ?_;rintro r ⟨N,rfl,j⟩;exact d N j
   .show Ends (call _ _) _;refine Ends.call (VA b (c:=wX f) ⟨by simp[Sm,wX],q,by simp[Sm,wX]⟩ (b.set f) (Nat.le_refl _) (Nat.le_succ _) (Nat.le_refl _)) ?_;rintro r ⟨N,rfl,j⟩;exact d N j
  .show Ends (ey _ _) _;rw[zj (by omega)];have j:Fw (n+1) 0 0 _:=b.put ⟨f.a,List.take ((min (f.F.length:Int) 3000).toNat) f.F,f.G⟩ (by simp only[length_take];omega);refine Ends.call (VA b (c:=tE ⟨f.a,List.take ((min (f.F.length:Int) 3000).toNat) f.F,f.G⟩) ⟨q,by simp[Sm,tE],by simp[Sm,tE]⟩ j (Nat.le_succ _) (Nat.le_refl _) (Nat.le_refl _)) ?_;rintro r ⟨N,rfl,j⟩;exact d N j
 .obtain⟨v,w,P,A⟩:=h;simp only[length_cons]at P;rw[xg,WS,zf,zH];cases B:(gO x.r&&(bif gO x.r then qf x.Value else false))&&decide ((o.length:Int)<20)
  .exact d _ ⟨v,by omega,by omega,A⟩
  .simp only[Bool.and_eq_true,decide_eq_true_eq]at B;obtain⟨⟨s,t⟩,hb3⟩:=B;rw[s,cond_true]at t;rw[cond_true,zj (by simp only[length_append,length_cons,length_nil];omega)];refine d _ ⟨by simp only[length_append,length_cons,length_nil];omega,by simp only[length_append,length_cons,length_nil];omega,by omega,fun y l=>?_⟩;rcases mem_append.1 l with l|l
   .exact A y l
   .simp at l;subst l;unfold s9;rw[s,t];rfl
def up(b:Bool)(n:Int):Int:=bif b then n else 0
section
variable {A:Type} {key:A->eo}
end
section
variable {b:Nat} {m1:List (eo×ae)} {m2:List (eo×Int)} {m3:List (eo×ab)} {m4:List (eo×ah)} {M:aj}
end
theorem Y8{M:aj}(a:Good M)(l:List ai)(b:∀c∈l,kF c):AD M l=some (tM l M):=by
 rw[Yu M a.fit l b];unfold lX;rw[(MD M).2 a];rfl
theorem YR{M:aj}(b:Good M):∀(l:List ai),(tM l M).2=0->Good (tM l M).1/\(tM l M).1.D=M.D:=by
 intro l;induction l generalizing M with
 |nil=>intro _;exact⟨b,rfl⟩
 |cons c l d =>
  intro h;unfold tM at h|-;cases a:decide ((fW c M).1=0)with
  |false =>
   rw[a]at h;simp only[Bool.not_false,cond_true]at h;rw[h]at a;cases a
  |true =>
   rw[a]at h;simp only[Bool.not_true,cond_false]at h|-;have:=d (Ut b c) h;exact⟨this.1,this.2.trans (WD c M)⟩
section
variable {A:Type} {key:A->eo}
end
def tB(x:ak):ai:=bif decide (x.g=5)then⟨3,jc,x.x,i9⟩else bif decide (x.g=6)then⟨5,jc,oO,x.h⟩else⟨1,x.j,oO,i9⟩
def ql(x:ak):ai:=⟨bif decide (x.g=5)then 3 else bif decide (x.g=6)then 5 else 1,x.j,x.x,x.h⟩
def eG(k:Int):Int:=bif decide (k=5)then 1 else bif decide (k=6)then 2 else 0
structure Yp(x:ak):Prop where
 fp:Sm x.j.a
 sp:Sm x.x.r
 vp:Sm x.h.a
theorem tm(k:Int):jg k=some (eG k):=by
 unfold jg eG;cases decide (k=5) <;> cases decide (k=6) <;> rfl
theorem Mv(x:ak):xD x=some (ql x):=by
 unfold xD ql;rw[tm,zf];unfold eG;cases decide (x.g=5) <;> cases decide (x.g=6) <;> rfl
theorem vd(x:ak):oB (ql x)=oB (tB x):=by
 unfold oB ql tB;cases decide (x.g=5) <;> cases decide (x.g=6) <;> rfl
theorem vy(x:ak):iQ (ql x)=tB x:=by
 unfold iQ ql tB;cases decide (x.g=5) <;> cases decide (x.g=6) <;> rfl
theorem vx(x:ak):KI (ql x)=true:=by
 unfold KI ql;cases decide (x.g=5) <;> cases decide (x.g=6) <;> rfl
theorem y4(x:ak):ml (ql x)=bif decide (oB (tB x)=0)&&!Bt (ql x) (tB x)then 2 else oB (tB x):=by unfold ml;rw[vx,vy,vd];rfl
theorem kX{x:ak}(h:Yp x):kF (ql x):=⟨h.fp,h.sp,h.vp⟩
def Bu(x:ak):Int :=
 bif decide (x.g<1)||decide (6<x.g)then 1 else
 bif !decide (oB (tB x)=0)then oB (tB x)else
 bif !Bt (ql x) (tB x)||x.h.I then 2 else 0
theorem V1(x:ak)(h:Yp x):EL x=some (Bu x):=by
 unfold EL Bu;rw[Mv];simp only[zf];rw[YJ _ (kX h)];simp only[zf,th,w7];rw[y4];unfold fa;cases (decide (x.g<1)||decide (6<x.g))
 .simp only[cond_false];by_cases a:oB (tB x)=0
  .simp only[a,decide_true,Bool.true_and,Bool.not_true,cond_false];cases Bt (ql x) (tB x) <;> cases x.h.I <;> rfl
  .simp only[decide_eq_false a,Bool.false_and,Bool.not_false,cond_true,cond_false]
 .rfl
def pd(c:UInt8):Bool:=(decide (48<=(c.toNat:Int))&&decide ((c.toNat:Int)<=57))||(decide (97<=(c.toNat:Int))&&decide ((c.toNat:Int)<=102))
def hJ(s:eo):Bool:=s.all pd&&decide ((s.length:Int)=16)
theorem qa(s:eo):Nh s=some (hJ s):=by
 unfold Nh;simp only[eJ];rw[xc pd (z:=false) (fun i x nx k=>by simp only[pd];rw[xr,Bool.not_not])];simp only[oN];unfold hJ;cases s.all pd <;> rfl
theorem p6(s:eo):L7 s=some (hJ s):=by
 unfold L7;simp only[eJ];rw[xc pd (z:=false) (fun i c nx k=>by
  rw[xr];congr 1;unfold pd;rw[Bool.eq_iff_iff];simp only[Bool.or_eq_true,Bool.and_eq_true,Bool.not_eq_true',decide_eq_true_eq,Bool.or_eq_false_iff,Bool.and_eq_false_iff,decide_eq_false_iff_not,Bool.not_eq_false'];omega)]
 simp only[oN];unfold hJ;cases s.all pd <;> rfl
def qO(k:Int):Bool:=decide (1<=k)&&decide (k<=6)
def named(k:Int)(p:eo):Bool:=bif decide (k=6)then gO p else fE p
def pc(b:eo):eo:=gH (([114]:eo)++b)
def iH(b:eo):eo:=gH (([45]:eo)++b)
def sV(h:aa):Bool:=((!hJ h.y)||((!decide (h.E=[]))&&(!decide (h.g=3))))||((decide (h.g=3)&&!decide (h.y=pc h.E))&&!decide (h.y=iH h.E))
def iX(h:aa):Int :=
 bif !gO h.q then 5 else bif !qO h.g then 1 else bif !named h.g h.a then 5 else bif sV h then 2 else 0
structure l8(h:aa):Prop where
 p:Sm h.a
 b:Sm h.E
theorem qe(c:UInt8){b:eo}(h:Sm b):(([c]:eo)++b).length<=274877906944:=by unfold Sm at h;simp only[length_append,length_cons,length_nil];omega
theorem s5(h:aa)(c:l8 h):Pf h=some (iX h):=by
 unfold Pf;rw[UV,UV,O5 _ c.p,qa,EO,EO];unfold UF;simp only[zf,zH];rw[zj (fun _=>qe 114 c.b),zj (fun _=>qe 45 c.b)];unfold iX named qO;show(bif !gO h.q then _ else bif !(decide (1<=h.g)&&decide (h.g<=6))then _ else _)=_;cases gO h.q
 .rfl
 cases (decide (1<=h.g)&&decide (h.g<=6))
 .rfl
 simp only[Bool.not_true,cond_false];have d:((decide (h.g=6)&&!(bif decide (h.g=6)then gO h.a else false))||((!decide (h.g=6))&&!(bif ((!((decide (h.g=6))&&(!(bif decide (h.g=6)then gO h.a else false))))&&(!decide (h.g=6)))then fE h.a else false)))=!(bif decide (h.g=6)then gO h.a else fE h.a):=by cases decide (h.g=6) <;> cases gO h.a <;> cases fE h.a <;> rfl
 rw[d];cases (bif decide (h.g=6)then gO h.a else fE h.a)
 .rfl
 simp only[Bool.not_true,cond_false];unfold sV;change _=some (bif (((!hJ h.y)||((!decide (h.E=[]))&&(!decide (h.g=3))))||((decide (h.g=3)&&!decide (h.y=pc h.E))&&!decide (h.y=iH h.E)))then(2:Int)else 0);have e:((decide (h.g=3)&&(!decide (h.y=(bif decide (h.g=3)then gH (([114]:eo)++h.E)else []))))&&(!decide (h.y=(bif (decide (h.g=3)&&(!decide (h.y=(bif decide (h.g=3)then gH (([114]:eo)++h.E)else []))))then gH (([45]:eo)++h.E)else []))))=((decide (h.g=3)&&!decide (h.y=pc h.E))&&!decide (h.y=iH h.E)):=by
  unfold pc iH;cases decide (h.g=3)
  .rfl
  .simp only[cond_true,Bool.true_and];cases f:decide (h.y=gH (([114]:eo)++h.E)) <;> rfl
 rw[e];cases ((!hJ h.y)||((!decide (h.E=[]))&&(!decide (h.g=3)))) <;> cases ((decide (h.g=3)&&!decide (h.y=pc h.E))&&!decide (h.y=iH h.E)) <;> rfl
def jo(a b:aa):Int:=bif !decide (eU a.q b.q=0)then eU a.q b.q else bif !decide (eG a.g-eG b.g=0)then eG a.g-eG b.g else eU a.a b.a
theorem Yt(a b:eo):tY a b=some (eU a b):=rfl
theorem iG(k:Int):0<=eG k/\eG k<=2:=by
 unfold eG;cases decide (k=5) <;> cases decide (k=6) <;> decide
theorem ug(k:Int):A5 k=some (eG k+1):=by
 unfold A5 eG;cases decide (k=5) <;> cases decide (k=6) <;> rfl
theorem pu(h:aa):xi h=some ⟨eG h.g+1,h.a⟩:=by
 unfold xi;rw[ug];rfl
theorem TR(a b:aa):LV a b=some (jo a b):=by
 unfold LV jo;simp only[Yt,zf,pu];have c:=iG a.g;have d:=iG b.g;cases decide (eU a.q b.q=0)
 .rfl
 simp only[Bool.not_true,cond_false];rw[show IntKind.i64.wrap (eG a.g+1-(eG b.g+1))=eG a.g-eG b.g by rw[iD (by omega) (by omega)];omega,show decide (eG a.g+1=eG b.g+1)=decide (eG a.g-eG b.g=0)by rw[decide_eq_decide];omega];cases decide (eG a.g-eG b.g=0) <;> rfl
theorem or3(a b c:Int):xL [a,b,c]=some (bif !decide (a=0)then a else bif !decide (b=0)then b else c):=by
 unfold xL;simp only[eJ,forL];cases decide (a=0)
 .rfl
 cases decide (b=0)
 .rfl
 by_cases h:c=0
 .subst h;rfl
 .rw[decide_eq_false h];rfl
theorem TN(a b:aa):tt a b=some (jo a b):=by unfold tt jo;have c:=iG a.g;have d:=iG b.g;simp only[Yt,zf,tm];rw[show IntKind.i64.wrap (eG a.g-eG b.g)=eG a.g-eG b.g from iD (by omega) (by omega)];simp only[or3,zf]
def iW{α:Type}(e:Nat->α->Int):Nat->List α->Int
 |_,[]=>0
 |i,x::l=>bif !decide (e i x=0)then e i x else iW e (i+1) l
section
variable {α:Type}
theorem Wb{f:Nat->α->Unit->(Unit->Option Int)->(Unit->Option Int)->Option Int}{K:Unit->Option Int}(e:Nat->α->Int)(L:List α)
  (c:∀i x nx k,i<L.length->x∈L->f i x () nx k=bif !decide (e i x=0)then some (e i x)else nx ()) :
  ∀(l:List α) (i:Nat),L.drop i=l->forL l i f () K=bif !decide (iW e i l=0)then some (iW e i l)else K ()
 |[],i,_=>rfl
 |x::l,i,a=>by
  have hi:i<L.length:=by
   rcases Nat.lt_or_ge i L.length with h|h
   .exact h
   .rw[drop_eq_nil_of_le h]at a;cases a
  have hx:x∈L:=by
   have:x∈L.drop i:=by rw[a];exact mem_cons_self ..
   exact mem_of_mem_drop this
  have b:L.drop (i+1)=l:=by
   have:=congrArg List.tail a;simpa using this
  unfold forL iW;rw[c _ _ _ _ hi hx,Wb e L c l (i+1) b];by_cases d:e i x=0
  .simp only[d,decide_true,Bool.not_true,cond_false]
  .simp only[decide_eq_false d,Bool.not_false,cond_true]
theorem AP{β:Type}{Z:Type}{f:Nat->α->List β->(List β->Option Z)->(List β->Option Z)->Option Z}{K:List β->Option Z}(q:α->Bool)(g:α->β)(N:Nat)
  (a:∀i x o nx k,o.length<N->f i x o nx k=bif q x then nx (o++[g x])else nx o) :
  ∀(l:List α) (i:Nat) (o:List β),o.length+l.length<=N->forL l i f o K=K (o++(l.filter q).map g)
 |[],i,o,_=>by simp[forL]
 |x::l,i,o,c=>by
  simp only[length_cons]at c;unfold forL;rw[a _ _ _ _ _ (by omega)];cases b:q x
  .rw[cond_false,AP q g N a l (i+1) o (by omega),filter_cons_of_neg (by simp[b])]
  .rw[cond_true,AP q g N a l (i+1) _ (by simp only[length_append,length_cons,length_nil];omega),filter_cons_of_pos b,map_cons,append_assoc];rfl
end
def hz:aa:=aa.mk [] 0 [] [] []
def jB(L:List aa)(i:Nat)(h:aa):Int:=bif !decide (iX h=0)then iX h else bif decide (0<(i:Int))&&decide (0<=jo (L.getD (i-1) hz) h)then 7 else 0
def Tt(t:Int)(p:eo)(o:aa):Bool:=decide (eG o.g=t)&&decide (o.a=p)
def pi(a b:aa):Bool:=(decide (a.g=2)&&decide (b.g=2))&&decide (a.y=b.y)
def cf(o:Option aa)(h:aa):Bool:=o.isSome&&!pi (o.getD hz) h
def rn:List aa->List aa->Int
 |_,[]=>0
 |r,h::l=>bif cf (r.find? (Tt (eG h.g) h.a)) h then 11 else rn (h::r) l
def wZ(k:al):Int:=bif decide (5000<(k.k.length:Int))then 4 else bif !decide (iW (jB k.k) 0 k.k=0)then iW (jB k.k) 0 k.k else rn [] k.k
theorem Wo{A:Type}[DecidableEq A](b:Int->eo->A)(c:∀t p d j,b t p=b d j↔t=d/\p=j)
  {f:Nat->aa->List (A×aa)->(List (A×aa)->Option Int)->(List (A×aa)->Option Int)->Option Int}
  (n:∀i h m nx k,m.length<=5000->f i h m nx k=bif cf (zS m (b (eG h.g) h.a)) h then some 11 else nx (eD m (b (eG h.g) h.a) h)) :
  ∀(l:List aa) (i:Nat) (m:List (A×aa)) (r:List aa),(∀t p,zS m (b t p)=r.find? (Tt t p))->m.length+l.length<=5000->forL l i f m (fun _=>some 0)=some (rn r l)
 |[],i,m,r,_,_=>rfl
 |h::l,i,m,r,o,s=>by
  simp only[length_cons]at s;unfold forL rn;rw[n _ _ _ _ _ (by omega),o];cases cf (r.find? (Tt (eG h.g) h.a)) h
  .rw[cond_false,cond_false];refine Wo b c n l (i+1) _ (h::r) (fun t p=>?_) ?_
   .rw[tT];by_cases e:b (eG h.g) h.a=b t p
    .obtain⟨u,v⟩:=(c _ _ _ _).1 e;rw[if_pos e,find?_cons_of_pos (by simp[Tt,u,v])]
    .rw[if_neg e,find?_cons_of_neg (by
      intro q;simp only[Tt,Bool.and_eq_true,decide_eq_true_eq]at q;exact e ((c _ _ _ _).2 q)),o]
   .rw[AM];split <;> omega
  .rfl
theorem ld{L:List aa}{i:Nat}(hi:i<L.length)(a:L.length<=5000):decide (0<(i:Int))=true->0<=IntKind.i64.wrap ((i:Int)-1)/\IntKind.i64.wrap ((i:Int)-1)<(L.length:Int):=by intro h;have h:=of_decide_eq_true h;rw[AC i (by omega) (by omega)];omega
theorem qv{L:List aa}{i:Nat}(hi:i<L.length)(a:L.length<=5000)(h:decide (0<(i:Int))=true):(IntKind.i64.wrap ((i:Int)-1)).toNat=i-1:=by have h:=of_decide_eq_true h;rw[AC i (by omega) (by omega)];rfl
theorem kG(k:al)(f:∀h∈k.k,l8 h):Lp k=some (wZ k):=by
 unfold Lp wZ;by_cases d:5000<(k.k.length:Int)
 .rw[decide_eq_true d];rfl
 rw[decide_eq_false d];simp only[cond_false,eJ];have c:k.k.length<=5000:=by omega
 refine(Wb (jB k.k) k.k (fun i h nx j hi l=>?_) k.k 0 rfl).trans ?_
 .rw[s5 h (f h l),zf,zj (ld hi c)];unfold jB;by_cases e:iX h=0
  .simp only[e,decide_true,Bool.not_true,cond_false];cases n:decide (0<(i:Int))
   .rfl
   .rw[AQ,qv hi c n];change call (LV (k.k.getD (i-1) hz) h) _=_;rw[TR,zf,Bool.true_and];cases decide (0<=jo (k.k.getD (i-1) hz) h) <;> rfl
  .simp only[decide_eq_false e,Bool.not_false,cond_true]
 .cases decide (iW (jB k.k) 0 k.k=0)
  .rfl
  simp only[Bool.not_true,cond_false];refine Wo (fun t p=>aq.mk (t+1) p) (fun t p o r=>?_) (fun i h m nx j s=>?_) k.k 0 [] [] (fun _ _=>rfl) (by simpa using c)
  .rw[aq.mk.injEq];constructor
   .rintro⟨a,b⟩;exact⟨by omega,b⟩
   .rintro⟨a,b⟩;exact⟨by omega,b⟩
  .simp only[pu,zf,UC,zH];rw[zj (by have:=AM m (aq.mk (eG h.g+1) h.a) h;split at this <;> omega)];unfold fc cf pi hz;generalize zS m (aq.mk (eG h.g+1) h.a)=q;cases q <;> rfl
theorem JS(a b c d e:Int):g8 [a,b,c,d,e]=some (fa a (fa b (fa c (fa d e)))):=UA a _ _ (UA b _ _ (KF c d e))
theorem Km(A K:Bool)(s r m:eo):(A||((K&&!decide (s=(bif (!A&&K)then r else [])))&&!decide (s=(bif (!A&&(K&&!decide (s=(bif (!A&&K)then r else []))))then m else []))))=(A||((K&&!decide (s=r))&&!decide (s=m))):=by
 cases A
 .cases K
  .rfl
  .simp only[Bool.not_false,Bool.true_and,cond_true,Bool.false_or];cases decide (s=r) <;> rfl
 .rfl
theorem Hi(A B C D E:Bool)(nx:Option Int):(bif !decide ((fa (bif !A then 5 else 0) (fa (bif !B then 1 else 0) (fa (bif !C then 5 else 0) (fa (bif D then 2 else 0) (bif E then 7 else 0)))))=0)then some (fa (bif !A then 5 else 0) (fa (bif !B then 1 else 0) (fa (bif !C then 5 else 0) (fa (bif D then 2 else 0) (bif E then 7 else 0)))))else nx) =
  bif !decide ((bif !decide ((bif !A then 5 else bif !B then 1 else bif !C then 5 else bif D then 2 else 0:Int)=0)then(bif !A then 5 else bif !B then 1 else bif !C then 5 else bif D then 2 else 0:Int)else bif E then 7 else 0)=0)then some (bif !decide ((bif !A then 5 else bif !B then 1 else bif !C then 5 else bif D then 2 else 0:Int)=0)then(bif !A then 5 else bif !B then 1 else bif !C then 5 else bif D then 2 else 0:Int)else bif E then 7 else 0)else nx:=by
 cases A <;> cases B <;> cases C <;> cases D <;> cases E <;> rfl
theorem B3(k:al)(j:∀h∈k.k,l8 h):rF k=some (wZ k):=by
 unfold rF wZ;by_cases e:5000<(k.k.length:Int)
 .rw[decide_eq_true e];rfl
 rw[decide_eq_false e];simp only[cond_false,eJ];have c:k.k.length<=5000:=by omega
 refine(Wb (jB k.k) k.k (fun i h nx l hi n=>?_) k.k 0 rfl).trans ?_
 .have d:=j h n;rw[p6,zf,zj (fun _=>qe 114 d.b),B5,B5,zH,zj (fun _=>qe 45 d.b),zH,AW _ d.p,xg,xg];simp only[zf,th];rw[zj (ld hi c),zj (ld hi c)];have r:∀(g:Bool) (F:Bool->Option Int),(bif g then F (gO h.a)else F (fE h.a))=F (bif g then gO h.a else fE h.a):=fun g F=>by cases g <;> rfl
  rw[Km];have s:(((!hJ h.y)||((!decide (h.E=[]))&&(!decide (h.g=3))))||((decide (h.g=3)&&!decide (h.y=gH (([114]:eo)++h.E)))&&!decide (h.y=gH (([45]:eo)++h.E))))=sV h:=by unfold sV pc iH;exact Eq.refl _
  rw[s];have f:∀F:Int->Option Int,callG (decide (0<(i:Int))) (tt (k.k.getD ((IntKind.i64.wrap ((i:Int)-1)).toNat) hz) h) 0 F=F (bif decide (0<(i:Int))then jo (k.k.getD (i-1) hz) h else 0):=by
   intro F;cases u:decide (0<(i:Int))
   .rfl
   .rw[AQ,qv hi c u,TN];rfl
  change (bif decide (h.g=6)then callG (decide (0<(i:Int))) (tt (k.k.getD ((IntKind.i64.wrap ((i:Int)-1)).toNat) hz) h) 0 _ else callG (decide (0<(i:Int))) (tt (k.k.getD ((IntKind.i64.wrap ((i:Int)-1)).toNat) hz) h) 0 _)=_;rw[f,f];simp only[JS,zf];rw[r (decide (h.g=6)) (fun nm=>bif !decide ((fa (bif !gO h.q then 5 else 0) (fa (bif (decide (h.g<1)||decide (6<h.g))then 1 else 0) (fa (bif !nm then 5 else 0) (fa (bif sV h then 2 else 0) (bif (decide (0<(i:Int))&&decide (0<=(bif decide (0<(i:Int))then jo (k.k.getD (i-1) hz) h else 0)))then 7 else 0)))))=0)then some (fa (bif !gO h.q then 5 else 0) (fa (bif (decide (h.g<1)||decide (6<h.g))then 1 else 0) (fa (bif !nm then 5 else 0) (fa (bif sV h then 2 else 0) (bif (decide (0<(i:Int))&&decide (0<=(bif decide (0<(i:Int))then jo (k.k.getD (i-1) hz) h else 0)))then 7 else 0)))))else nx ())];have v:(decide (0<(i:Int))&&decide (0<=(bif decide (0<(i:Int))then jo (k.k.getD (i-1) hz) h else 0)))=(decide (0<(i:Int))&&decide (0<=jo (k.k.getD (i-1) hz) h)):=by cases decide (0<(i:Int)) <;> rfl
  rw[v];have w:(decide (h.g<1)||decide (6<h.g))=!qO h.g:=by unfold qO;rw[Bool.eq_iff_iff];simp only[Bool.or_eq_true,Bool.not_eq_true',decide_eq_true_eq,Bool.and_eq_false_iff,decide_eq_false_iff_not];omega
  rw[w];rw[Hi];unfold jB iX named;exact Eq.refl _
 .cases decide (iW (jB k.k) 0 k.k=0)
  .rfl
  simp only[Bool.not_true,cond_false];refine Wo (fun t p=>au.mk t p) (fun t p x z=>?_) (fun i h m nx l A=>?_) k.k 0 [] [] (fun _ _=>rfl) (by simpa using c)
  .rw[au.mk.injEq]
  .simp only[tm,zf];rw[zj (by have:=AM m (au.mk (eG h.g) h.a) h;split at this <;> omega)];unfold fc cf pi hz;generalize zS m (au.mk (eG h.g) h.a)=q;cases q with
   |none=>rfl
   |some o =>
    simp only[Option.isSome_some,Option.getD_some,Bool.true_and];cases decide (o.g=2) <;> cases decide (h.g=2) <;> cases decide (o.y=h.y) <;> rfl
theorem sk:Uy=some true:=rfl
structure Lw where
 f:eo->Option ae
 s:eo->Option ab
 v:eo->Option ah
def oL(M:aj):Lw:=⟨xk M.u,vm M.B,yF M.A⟩
abbrev M1:=List (eo×ae)
abbrev M2:=List (eo×Int)
abbrev M3:=List (eo×ab)
abbrev M5:=List (eo×ah)
def JP(z:Int)(d:eo)(m:M2):Option M2 :=
 fc (zS m d) fun q=>ey ((eD m d (IntKind.i64.wrap ((q.getD 0)+z))).length<=274877906944) <| some (eD m d (IntKind.i64.wrap ((q.getD 0)+z)))
def vZ(z:Int)(p:eo)(m:M2):Option M2 :=
 forL p 0 (fun i c m nx k =>
  bif decide ((c.toNat:Int)=47)then
   ey (0<=(i:Int)/\(i:Int)<=(p.length:Int)) <|
   call (JP z (List.take i p) m) fun r=>nx r
  else nx m) m (fun m=>some m)
structure Bd(n:Nat)(m:M2):Prop where
 l:m.length<=n
 b:∀d,-(n:Int)<=(zS m d).getD 0/\(zS m d).getD 0<=n
theorem JO{z:Int}(hz:-1<=z/\z<=1){d:eo}{m:M2}{n:Nat}(h:Bd n m)(e:n<=68719476736):∃m',JP z d m=some m'/\Bd (n+1) m':=by
 have f:=h.b d;have g:=h.l;have c:IntKind.i64.wrap (((zS m d).getD 0)+z)=(zS m d).getD 0+z:=iD (by omega) (by omega);have a:(eD m d ((zS m d).getD 0+z)).length<=n+1:=by rw[AM];split <;> omega
 refine⟨eD m d ((zS m d).getD 0+z),?_,a,fun k=>?_⟩
 .unfold JP fc;dsimp only;rw[c,zj (by omega)]
 .rw[tT];split
  .simp only[Option.getD_some];omega
  .have:=h.b k;omega
theorem y2{z:Int}(hz:-1<=z/\z<=1){p:eo}{m:M2}{n:Nat}(h:Bd n m)(k:n+p.length<=68719476736):Ends (vZ z p m) (Bd (n+p.length)):=by
 unfold vZ;refine mh (fun i r m=>i+r.length=p.length/\Bd (n+i) m) (fun i m hi=>⟨m,rfl,?_⟩) (fun i c r m nx hi a=>?_) p 0 m ⟨by simp,h⟩
 .obtain⟨g,f⟩:=hi;simp only[length_nil,Nat.add_zero]at g;rw[<-g];exact f
 .obtain⟨g,f⟩:=hi;simp only[length_cons]at g;cases decide ((c.toNat:Int)=47)with
  |false=>exact a _ ⟨by omega,by have:=f.l;omega,fun d=>by have:=f.b d;omega⟩
  |true =>
   rw[cond_true,zj ⟨by omega,by omega⟩];obtain⟨o,e,j⟩:=JO hz f (d:=List.take i p) (by omega);rw[e,zf];exact a _ ⟨by omega,j⟩
structure Sc(n:Nat)(m1:M1)(m2:M2)(m3:M3)(m4:M5)(L:Lw):Prop where
 l1:∀k,zS m1 k=L.f k
 l3:∀k,zS m3 k=L.s k
 l4:∀k,zS m4 k=L.v k
 n1:(m1.map (·.1)).Nodup
 n3:(m3.map (·.1)).Nodup
 n4:(m4.map (·.1)).Nodup
 z1:m1.length<=n
 z2:Bd n m2
 z3:m3.length<=n
 z4:m4.length<=n
theorem Bd.le{n a:Nat}{m:M2}(h:Bd n m)(c:n<=a):Bd a m:=⟨by have:=h.l;omega,fun d=>by have:=h.b d;omega⟩
theorem Aq{K V:Type}[DecidableEq K](m:List (K×V))(k:K)(v:V):(eD m k v).length<=m.length+1:=by rw[AM];split <;> omega
theorem Th(p:eo)(a:M1)(m2:M2)(b:M3)(m4:M5):UN p a m2 b m4=vZ 1 p m2:=rfl
theorem YP{M:aj}(h:Good M):∃n j E m4,EJ M=some (n,j,E,m4)/\Sc 400000 n j E m4 (oL M):=by
 have G:=h.c2;have H:=h.c3;have I:=h.c4;suffices J:Ends (EJ M) fun z=>Sc 400000 z.1 z.2.1 z.2.2.1 z.2.2.2 (oL M)by obtain⟨⟨a,b,c,d⟩,e,g⟩:=J;exact⟨a,b,c,d,e,g⟩
 unfold EJ;simp only[eJ];refine mh (fun i r s=>∃a,M.u=a++r/\a.length=i/\s.1=gn (·.a) id a/\Bd (200*i) s.2) (fun i s hi=>?_) (fun i f r s nx hi t=>?_) M.u 0 ([],[]) ⟨[],rfl,rfl,rfl,by simp,fun d=>by simp[zS]⟩
 .obtain⟨a,e,F,g,l⟩:=hi;rw[append_nil]at e;subst e;obtain⟨n,j⟩:=s;simp only at g l|-;subst g;refine⟨(gn (·.a) id M.u,j,gn (·.r) id M.B,gn (·.C) id M.A),?_,?_⟩
  .refine(iM (key:=fun x:ab=>x.r) (w:=id) (fun _ _ _ _ _=>rfl) h.s2 (by omega)).trans ?_;exact iM (key:=fun x:ah=>x.C) (w:=id) (fun _ _ _ _ _=>rfl) h.v2 (by omega)
  .have q {A:Type} (o:Option A):o.map id=o:=by cases o <;> rfl
   exact⟨fun k=>by rw[BX,q];rfl,fun k=>by rw[BX,q];rfl,fun k=>by rw[BX,q];rfl,B4 h.g2,B4 h.s2,B4 h.v2,by simp[gn];omega,l.le (by omega),by simp[gn];omega,by simp[gn];omega⟩
 .obtain⟨a,e,F,g,l⟩:=hi;have m:=congrArg List.length e;simp only[length_append,length_cons]at m;obtain⟨n,j⟩:=s;simp only at g l|-;subst g;have hx:f.a∉(gn (fun x:ae=>x.a) id a).map (·.1):=by rw[VY];intro K;obtain⟨y,L,v⟩:=mem_map.1 K;have g:=h.g2;unfold fB at g;rw[e,pairwise_append]at g;exact Ay (g.2.2 y L f (mem_cons_self ..)) v
  have D:eD (gn (fun x:ae=>x.a) id a) f.a f=gn (fun x:ae=>x.a) id (a++[f]):=by rw[oc _ _ _ hx];simp[gn]
  have N:f∈M.u:=by rw[e];simp
  have Q:=EH (Nc (h.g1 f N)).1;rw[D,zj (by simp[gn];omega),Th];obtain⟨R,O,P⟩:=y2 (z:=1) (by omega) (p:=f.a) l (by omega);rw[O,zf];exact t _ ⟨a++[f],by rw[e];simp,by simp[F],rfl,P.le (by omega)⟩
def Re(f:ae):eo:=bif f.G then pc f.F else iH f.F
def Vp(s:ab):eo:=iH s.Value
def Rc(s:ah):eo:=bif s.H then gH (([97]:eo)++s.a)else iH s.a
theorem YD(f:ae)(h:Sm f.F):Lv f=some (Re f):=by
 unfold Lv Re;rw[zj (qe 114 h),zj (qe 45 h),EO,EO];cases f.G <;> rfl
theorem jL(s:ab)(h:Sm s.Value):LK s=some (Vp s):=by unfold LK Vp;rw[zj (qe 45 h),EO];rfl
theorem jI(s:ah)(h:Sm s.a):LJ s=some (Rc s):=by
 unfold LJ Rc;rw[zj (qe 97 h),zj (qe 45 h),EO,EO];cases s.H <;> rfl
structure Sz(L:Lw):Prop where
 f:∀k x,L.f k=some x->Sm x.F/\x.a=k
 s:∀k x,L.s k=some x->Sm x.Value/\x.r=k
 v:∀k x,L.v k=some x->Sm x.a/\x.C=k
theorem Sz.good{M:aj}(h:Good M):Sz (oL M) where
 f k x hx:=by obtain⟨a,b⟩:=qg hx;have:=(Nc (h.g1 x a)).2;exact⟨by unfold Sm;omega,b⟩
 s k x hx:=by obtain⟨a,b⟩:=qg hx;have:=mx (nQ (h.s1 x a)).2;exact⟨by unfold Sm;omega,b⟩
 v k x hx:=by obtain⟨a,b⟩:=qg hx;have:=EH (ko (h.v1 x a)).2;exact⟨by unfold Sm;omega,b⟩
def tA(L:Lw)(p:aq):Option eo:=bif decide (p.K=2)then(L.s p.J).map Vp else bif decide (p.K=3)then(L.v p.J).map Rc else(L.f p.J).map Re
noncomputable def Hf(p:aq)(a:M1)(b:M3)(m4:M5):Option (eo×Bool) :=
 bif decide (p.K=2)then
  fc (zS b p.J) fun q=>call (LK (q.getD (ab.mk [] []))) fun r=>some (r,q.isSome)
 else
 bif decide (p.K=3)then
  fc (zS m4 p.J) fun q=>call (LJ (q.getD (ah.mk [] [] false false))) fun r=>some (r,q.isSome)
 else
 fc (zS a p.J) fun q=>call (Lv (q.getD (ae.mk [] [] false))) fun r=>some (r,q.isSome)
theorem xZ{n:Nat}{a:M1}{c:M2}{b:M3}{m4:M5}{L:Lw}(h:Sc n a c b m4 L)(hz:Sz L)(p:aq):Hf p a b m4=some ((tA L p).getD (iH []),(tA L p).isSome):=by
 have z:Sm ([]:eo):=Nat.zero_le _;unfold Hf tA;simp only[fc,h.l1,h.l3,h.l4];cases decide (p.K=2)with
 |true =>
  simp only[cond_true];cases e:L.s p.J with
  |none=>simp only[Option.getD_none,Option.map_none];rw[jL _ z];rfl
  |some x=>simp only[Option.getD_some,Option.map_some];rw[jL _ (hz.s _ _ e).1];rfl
 |false =>
  simp only[cond_false];cases decide (p.K=3)with
  |true =>
   simp only[cond_true];cases e:L.v p.J with
   |none=>simp only[Option.getD_none,Option.map_none];rw[jI _ z];rfl
   |some x=>simp only[Option.getD_some,Option.map_some];rw[jI _ (hz.v _ _ e).1];rfl
  |false =>
   simp only[cond_false];cases e:L.f p.J with
   |none=>simp only[Option.getD_none,Option.map_none];rw[YD _ z];rfl
   |some x=>simp only[Option.getD_some,Option.map_some];rw[YD _ (hz.f _ _ e).1];rfl
def mZ(h:aa):aq:=⟨eG h.g+1,h.a⟩
def rU(L:Lw)(h:aa):Int:=match tA L (mZ h)with
 |none=>3
 |some s=>bif decide (s=h.y)then 1 else 2
noncomputable def uv(h:aa)(a:M1)(b:M3)(m4:M5):Option Int :=
 call (xi h) fun p=>call (Hf p a b m4) fun r=>bif !r.2 then some 3 else bif decide (r.1=h.y)then some 1 else some 2
theorem rT{n:Nat}{a:M1}{c:M2}{b:M3}{m4:M5}{L:Lw}(h:Sc n a c b m4 L)(hz:Sz L)(x:aa):uv x a b m4=some (rU L x):=by
 unfold uv rU;rw[pu,zf,xZ h hz,zf];show(bif !(tA L (mZ x)).isSome then some 3 else bif decide ((tA L (mZ x)).getD (iH [])=x.y)then some 1 else some 2)=_;cases tA L (mZ x)with
 |none=>rfl
 |some s=>simp only[Option.isSome_some,Option.getD_some,Bool.not_true,cond_false];cases decide (s=x.y) <;> rfl
def tz(x:ak):eo:=bif decide (x.g=5)then x.x.r else bif decide (x.g=6)then x.h.C else x.j.a
def qw(x:ak):aq:=⟨eG x.g+1,tz x⟩
def Hh(x:ak):eo:=bif decide (x.g=5)then Vp x.x else bif decide (x.g=6)then Rc x.h else Re x.j
def nz(o:eo)(x:ak):aa:=⟨o,x.g,tz x,Hh x,bif decide (x.g=3)then x.j.F else []⟩
structure TL(x:ak):Prop where
 d:Sm x.j.F
 s:Sm x.x.Value
 v:Sm x.h.a
section
variable {A:Type}
def tG(pr:A->Option Bool)(s:List A):Option Int :=
 jp (S:=Unit) (fun _=>some (-1)) fun a =>
 forL s 0 (fun i h _ nx _=>call (pr h) fun r=>bif r then some (i:Int)else nx ()) () (fun _=>a ())
def sm(p:A->Bool)(l:List A):Int:=match l.findIdx? p with|some i=>(i:Int)|none=>-1
theorem xE{pr:A->Option Bool}{p:A->Bool}(l:List A)(h:∀x∈l,pr x=some (p x)):tG pr l=some (sm p l):=by
 unfold tG jp;have:∀(b:List A) (i:Nat),(∀x∈b,pr x=some (p x))->forL b i (fun i h _ nx _=>call (pr h) fun r=>bif r then some (i:Int)else nx ()) () (fun _=>some (-1))=some (match b.findIdx? p with|some j=>((i+j:Nat):Int)|none=>-1):=by
  intro b;induction b with
  |nil=>intro i _;rfl
  |cons x b c =>
   intro i a;unfold forL;show call (pr x) _=_;rw[a x (by simp),zf,findIdx?_cons];cases p x with
   |true=>rfl
   |false =>
    rw[cond_false];refine(c (i+1) fun y d=>a y (by simp[d])).trans ?_;cases b.findIdx? p with
    |none=>rfl
    |some j =>
     show some (((i+1+j:Nat):Int))=some (((i+(j+1):Nat):Int));rw[show i+1+j=i+(j+1)by omega]
 refine(this l 0 h).trans ?_;unfold sm;cases l.findIdx? p <;> simp
def vO(d:A)(c:A->Option Bool)(a:List A)(t:Int)(nx b:Int->Option Int):Option Int :=
 bif decide (t<((List.take a.length a).length:Int))then
  ey (0<=t/\t<(a.length:Int)) <|
  call (c (a.getD (t.toNat:Nat) d)) fun r=>bif r then some t else nx (IntKind.i64.wrap (t+1))
 else b t
def vN(d:A)(b:A->Option Bool)(c:List A):Option Int :=
 jp (S:=Unit) (fun _=>some (-1)) fun a=>loopN fv (vO d b c) 0 (fun _=>a ())
theorem vM{d:A}{a:A->Option Bool}{p:A->Bool}(l:List A)(o:l.length<=1073741824)(h:∀x∈l,a x=some (p x)):vN d a l=some (sm p l):=by
 obtain⟨N,b⟩:∃N,fv=N:=⟨_,rfl⟩;have m:1099511627776<=N:=b ▸ xa;unfold vN;rw[b];clear b;simp only[eJ];have key:=tr (f:=vO d a l) (k:=fun _=>some (-1)) (fun t=>0<=t/\t<=l.length) (fun t=>((l.length:Int)-t).toNat) (fun t=>some (match (l.drop t.toNat).findIdx? p with|some j=>t+(j:Int)|none=>-1)) (fun t nx hi c=>?_) N 0 ⟨by omega,by omega⟩ (by omega)
 .rw[key];unfold sm;simp only[Int.toNat_zero,drop_zero];cases l.findIdx? p <;> simp
 .obtain⟨n,q⟩:=hi;obtain⟨i,rfl⟩:=Int.eq_ofNat_of_zero_le n;unfold vO;rw[take_length];simp only[Int.toNat_natCast];by_cases e:i<l.length
  .rw[decide_eq_true (by omega),cond_true,zj (by omega)];have g:l.getD i d=l[i]:=by rw[getD_eq_getElem?_getD,getElem?_eq_getElem e];rfl
   rw[g,h _ (getElem_mem e),zf,drop_eq_getElem_cons e,findIdx?_cons];cases p l[i]with
   |true=>simp
   |false =>
    rw[cond_false,fJ i (by omega),c _ ⟨by omega,by omega⟩ (by omega)];simp only[Int.toNat_natCast,Bool.false_eq_true,if_false];cases (l.drop (i+1)).findIdx? p with
    |none=>rfl
    |some j=>simp only[Option.map_some];congr 1;omega
  .rw[decide_eq_false (by omega),cond_false,drop_eq_nil_of_le (by omega)];rfl
theorem yO(p:A->Bool)(l:List A):decide (0<=sm p l)=l.any p:=by
 unfold sm;cases h:l.findIdx? p with
 |none =>
  rw[findIdx?_eq_none_iff]at h;have:l.any p=false:=by rw[any_eq_false];intro x hx;rw[h x hx];simp
  rw[this];rfl
 |some i =>
  obtain⟨hi,a,_⟩:=findIdx?_eq_some_iff_getElem.1 h;have:l.any p=true:=any_eq_true.2 ⟨_,getElem_mem hi,a⟩;rw[this];exact decide_eq_true (show(0:Int)<=(i:Int)by omega)
def Tj{Z:Type}(d:A)(b:A->Option Bool)(n:Nat)(s:Int×Int×List A)(nx a:Int×Int×List A->Option Z):Option Z :=
 match s with
 |(i,j,o) =>
  bif decide (j<((List.take n o).length:Int))then
   ey (0<=j/\j<(n:Int)) <|
   ey (j.toNat<o.length) <|
   call (b (o.getD (j.toNat:Nat) d)) fun r =>
   bif !r then
    ey (0<=i/\i<(n:Int)) <|
    ey (i.toNat<o.length) <|
    nx (IntKind.i64.wrap (i+1),IntKind.i64.wrap (j+1),List.set o (i.toNat:Nat) (o.getD (j.toNat:Nat) d))
   else
   nx (i,IntKind.i64.wrap (j+1),o)
  else
  a (i,j,o)
def y7{Z:Type}(g:Nat->List A->Z)(d:A)(n:Nat)(s:Int×List A):Option Z :=
 match s with
 |(i,o) =>
  ey (0<=i/\i<=(n:Int)) <|
  ey (0<=i/\i<=(n:Int)) <|
  some (g i.toNat (List.take i.toNat o++List.replicate (n-i.toNat) d++List.drop (i.toNat+(n-i.toNat)) o))
def Kb{Z:Type}(g:Nat->List A->Z)(d:A)(c:A->Option Bool)(e:Option Int)(a:List A):Option Z :=
 call e fun r =>
 bif decide (r=(-1))then some (g a.length a)
 else
 jp (y7 g d a.length) fun b =>
 loopN fv (Tj d c a.length) (r,IntKind.i64.wrap (r+1),a) (fun s=>match s with
  |(i,j,o)=>b (i,o))
theorem mA(l:List A)(i:Nat)(x:A)(h:i<l.length):(l.set i x).take (i+1)=l.take i++[x]:=MH l i x h
theorem y8{Z:Type}(g:Nat->List A->Z){d:A}{t:A->Option Bool}{p:A->Bool}(l:List A)(G:l.length<=1073741824)(h:∀x∈l,t x=some (p x)):Ends (Kb g d t (some (sm p l)) l) fun z=>∃i o,z=g i o/\List.take i o=l.filter fun x=>!p x:=by
 obtain⟨N,m⟩:∃N,fv=N:=⟨_,rfl⟩;have B:1099511627776<=N:=m ▸ xa;unfold Kb;rw[m,zf];clear m;unfold sm;cases n:l.findIdx? p with
 |none =>
  rw[findIdx?_eq_none_iff]at n;simp only[decide_true,cond_true];exact⟨_,rfl,_,_,rfl,by rw[take_length,filter_eq_self.2 (fun x hx=>by rw[n x hx];rfl)]⟩
 |some k =>
  obtain⟨C,D,E⟩:=findIdx?_eq_some_iff_getElem.1 n;have:decide ((k:Int)=-1)=false:=decide_eq_false (by omega);simp only[this,cond_false,eJ];rw[fJ k (by omega)];generalize F:(fun s:Int×Int×List A=>match s with|(i,j,o)=>y7 g d l.length (i,o))=K;have q:∀i j o,K (i,j,o)=y7 g d l.length (i,o):=fun i j o=>by rw[<-F]
  refine VV (fun(s:Int×Int×List A)=>∃i j:Nat,s.1=i/\s.2.1=j/\i<j/\j<=l.length/\s.2.2.length=l.length/\s.2.2.take i=(l.take j).filter (fun x=>!p x)/\s.2.2.drop j=l.drop j) (fun(s:Int×Int×List A)=>((l.length:Int)-s.2.1).toNat) (fun s nx hi a=>?_) N _ ⟨k,k+1,rfl,rfl,by omega,by omega,rfl,?_,rfl⟩ (by simp only;omega)
  .obtain⟨i,j,u,v,H,I,c,e,f⟩:=hi;obtain⟨si,J,o⟩:=s;simp only at u v c e f a;subst u;subst v;unfold Tj;simp only;rw[take_of_length_le (by omega),c];by_cases b:j<l.length
   .rw[decide_eq_true (by omega),cond_true,zj (by omega),zj (by omega)]
    have r:o.getD ((j:Int).toNat) d=l[j]:=by
     rw[Int.toNat_natCast,getD_eq_getElem?_getD];have:(o.drop j)[0]?=(l.drop j)[0]?:=by rw[f]
     rw[getElem?_drop,getElem?_drop,Nat.add_zero]at this;rw[this,getElem?_eq_getElem b];rfl
    rw[r,h _ (getElem_mem b),zf];have w:(l.take (j+1)).filter (fun x=>!p x)=(l.take j).filter (fun x=>!p x)++if (!p l[j])=true then [l[j]]else []:=by rw[take_add_one,getElem?_eq_getElem b,filter_append];simp only[Option.toList_some,filter_cons,filter_nil]
    cases y:p l[j]with
    |true =>
     simp only[Bool.not_true,cond_false];rw[fJ j (by omega)];refine a _ ⟨i,j+1,rfl,rfl,by omega,by omega,c,?_,?_⟩ ?_
     .simp only;rw[w,y,e];simp
     .simp only;rw[<-drop_drop,<-drop_drop,f]
     .simp only;omega
    |false =>
     simp only[Bool.not_false,cond_true];rw[zj (by omega),zj (by omega),fJ i (by omega),fJ j (by omega),Int.toNat_natCast];refine a _ ⟨i+1,j+1,rfl,rfl,by omega,by omega,by simp[c],?_,?_⟩ ?_
     .simp only;rw[mA _ _ _ (by omega),w,y,e];simp
     .simp only;rw[drop_set,if_pos (by omega),<-drop_drop,<-drop_drop,f]
     .simp only;omega
   .obtain rfl:j=l.length:=by omega
    rw[decide_eq_false (by omega),cond_false,q];unfold y7;simp only;rw[zj (by omega),zj (by omega)];refine⟨_,rfl,_,_,rfl,?_⟩;rw[Int.toNat_natCast,append_assoc,take_append_of_le_length (by rw[length_take];omega),take_take,Nat.min_self,e,take_length]
  .simp only;rw[take_add_one,getElem?_eq_getElem C,filter_append];simp only[Option.toList_some,filter_cons,D,Bool.not_true,Bool.false_eq_true,if_false,filter_nil,append_nil];refine(filter_eq_self.2 fun x hx=>?_).symm;obtain⟨j,b,rfl⟩:=getElem_of_mem hx;rw[length_take]at b;rw[getElem_take];have:=E j (by omega);simp at this;simp[this]
end
theorem jY{α β:Type}(f:α->β):∀{l:List α},(l.map f).Nodup->∀x∈l,∀y∈l,f x=f y->x=y
 |[],_,x,hx,_,_,_=>by cases hx
 |z::l,c,x,hx,y,d,e=>by
  rw[map_cons,nodup_cons]at c;rcases mem_cons.1 hx with b|b
  .rcases mem_cons.1 d with a|a
   .rw[b,a]
   .exact absurd (mem_map.2 ⟨y,a,by rw[<-e,b]⟩) c.1
  .rcases mem_cons.1 d with a|a
   .exact absurd (mem_map.2 ⟨x,b,by rw[e,a]⟩) c.1
   .exact jY f c.2 x b y a e
abbrev leH(x y:aa):Prop:=¬ gS y.q y.g y.a x.q x.g x.a<0
theorem leH_le{x y:aa}:leH x y↔gS x.q x.g x.a y.q y.g y.a<=0:=by unfold leH;have:=AK x.q x.g x.a y.q y.g y.a;omega
theorem k5(k:Int):rk k=eG k+1:=by
 unfold rk eG;by_cases a:k=5
 .simp[a]
 .by_cases b:k=6 <;> simp[a,b]
end Go.Md

