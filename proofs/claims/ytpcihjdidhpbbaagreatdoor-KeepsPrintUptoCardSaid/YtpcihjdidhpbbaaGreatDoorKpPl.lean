/- Plain lemmas on the models: the law's model answers true. -/
import Derived.Test.YtpcihjdidhpbbaaGreatDoorKpMd
set_option linter.unusedSimpArgs false
set_option linter.unusedVariables false
set_option linter.unusedSectionVars false
open List
namespace Go.Md
open Go.Vc
section
variable {Z A S α:Type}
theorem zf(x:A)(k:A->Option Z):call (some x) k=k x:=rfl
theorem gU(g:Bool)(x d:A)(k:A->Option Z):callG g (some x) d k=k (bif g then x else d):=by cases g <;> rfl
theorem yH(a:Option A)(d:A)(k:A->Option Z):callG true a d k=call a k:=rfl
theorem C1(a:Option A)(d:A)(k:A->Option Z):callG false a d k=k d:=rfl
theorem zg{p:Prop}[Decidable p](h:p)(m:Option Z):eA p m=m:=if_pos h
theorem eJ(F:S->Option Z)(m:(S->Option Z)->Option Z):jp F m=m F:=rfl
theorem sE{s:ev}{i:Nat}(h:i<s.length)(k:Int->Option Z):fI s i k=k (s[i].toNat:Int):=by unfold fI;simp[h]
theorem mJ{l:List α}{i:Nat}(h:i<l.length)(k:α->Option Z):eL l i k=k l[i]:=by unfold eL;simp[h]
theorem yB{f:Nat->α->Unit->(Unit->Option Z)->(Unit->Option Z)->Option Z}{z:Z}(q:α->Bool)(a:∀i x nx k,f i x () nx k=bif q x then nx ()else some z)(k:Unit->Option Z) :
  ∀(l:List α) (i:Nat),forL l i f () k=bif l.all q then k ()else some z
 |[],i=>rfl
 |x::l,i=>by
  unfold forL;rw[a,yB q a k l (i+1),all_cons];cases q x <;> rfl
theorem Hq{f:Nat->α->S->(S->Option Z)->(S->Option Z)->Option Z}{k:S->Option Z}(a:Nat->List α->S->Prop)(R:Nat->List α->S->Option Z)
  (c:∀i s,a i [] s->k s=R i [] s) (d:∀i x l s nx,a i (x::l) s->(∀b,a (i+1) l b->nx b=R (i+1) l b)->f i x s nx k=R i (x::l) s) :
  ∀(l:List α) (i:Nat) (s:S),a i l s->forL l i f s k=R i l s
 |[],i,s,h=>c i s h
 |x::l,i,s,h=>d i x l s _ h fun b e=>Hq a R c d l (i+1) b e
theorem pq{f:S->(S->Option Z)->(S->Option Z)->Option Z}{k:S->Option Z}(a:S->Prop)(c:S->Nat)(R:S->Option Z)
  (h:∀s nx,a s->(∀b,a b->c b<c s->nx b=R b)->f s nx k=R s):∀(N:Nat) (s:S),a s->c s<N->loopN N f s k=R s
 |0,s,_,e=>by omega
 |N+1,s,hi,e=>by
  unfold loopN;exact h s _ hi fun b d g=>pq a c R h N b d (by omega)
theorem oc{f:Nat->S->(S->Option Z)->(S->Option Z)->Option Z}{k:S->Option Z}(n:Nat)(a:Nat->S->Prop)(R:Nat->S->Option Z)
  (c:∀s,a n s->k s=R n s) (d:∀i s nx,i<n->a i s->(∀b,a (i+1) b->nx b=R (i+1) b)->f i s nx k=R i s) :
  ∀(m i:Nat) (s:S),m+i=n->a i s->forC m i f s k=R i s
 |0,i,s,e,h=>by
  obtain rfl:i=n:=by omega
  exact c s h
 |m+1,i,s,e,h=>by
  unfold forC;exact d i s _ (by omega) h fun b g=>oc n a R c d m (i+1) b (by omega) g
theorem qK(b:Bool)(x y:Z):(bif b then some x else some y)=some (bif b then x else y):=by cases b <;> rfl
theorem hZ(c:Bool)(x y:Z):(bif c then x else y)=bif !c then y else x:=by cases c <;> rfl
theorem oM{c:Bool}(h:c=true)(x y:Z):(bif c then x else y)=x:=by rw[h];rfl
theorem sB{c:Bool}(h:c=false)(x y:Z):(bif c then x else y)=y:=by rw[h];rfl
end
theorem gj{n:Int}(a:-9223372036854775808<=n)(b:n<=9223372036854775807):IntKind.i64.wrap n=n:=kU a b
theorem mO(n:Nat)(h:n<=9223372036854775807):IntKind.i64.wrap (n:Int)=n:=kU (by omega) (by omega)
theorem fw(i:Nat)(h:i<9223372036854775807):IntKind.i64.wrap ((i:Int)+1)=((i+1:Nat):Int):=by rw[gj (by omega) (by omega)];rfl
theorem yp(i:Nat)(a:0<i)(h:i<9223372036854775807):IntKind.i64.wrap ((i:Int)-1)=((i-1:Nat):Int):=by rw[gj (by omega) (by omega)];omega
theorem qM:1099511627776<=ff:=Nat.le_refl _
def eW(c:UInt8):ev->ev×ev×Bool
 |[]=>([],[],false)
 |b::s=>if b=c then([],s,true)else(b::(eW c s).1,(eW c s).2.1,(eW c s).2.2)
def zQ(c:UInt8):ev->List ev
 |[]=>[[]]
 |b::s=>if b=c then []::zQ c s else match zQ c s with
  |[]=>[[b]]
  |h::t=>(b::h)::t
theorem HV{c:UInt8}:∀{s:ev},c∉s->eW c s=(s,[],false)
 |[],_=>rfl
 |b::s,h=>by
  have a:b≠c:=fun e=>h (by simp[e]);have d:=HV (s:=s) (c:=c) (fun f=>h (mem_cons_of_mem _ f));simp only[eW,if_neg a,d]
theorem uK{c:UInt8}:∀{s:ev},c∈s->(eW c s).2.2=true/\s=(eW c s).1++c::(eW c s).2.1/\c∉(eW c s).1
 |[],h=>by cases h
 |b::s,h=>by
  by_cases a:b=c
  .subst a;simp[eW]
  .have e:c∈s:=by
    rcases mem_cons.1 h with rfl|h
    .exact absurd rfl a
    .exact h
   obtain⟨f,g,i⟩:=uK e;simp only[eW,if_neg a];refine⟨f,by rw[cons_append,<-g],?_⟩;intro d;rcases mem_cons.1 d with rfl|d
   .exact a rfl
   .exact i d
theorem ky{c:UInt8}:∀{a b:ev},c∉a->eW c (a++c::b)=(a,b,true)
 |[],b,_=>by simp[eW]
 |x::a,b,h=>by
  have hx:x≠c:=fun e=>h (by simp[e]);have:=ky (a:=a) (b:=b) (c:=c) (fun d=>h (mem_cons_of_mem _ d));simp only[cons_append,eW,if_neg hx,this]
theorem CS(c:UInt8)(s:ev):zQ c s≠[]:=by
 cases s with
 |nil=>simp[zQ]
 |cons b s =>
  simp only[zQ];split
  .simp
  .split <;> simp
theorem C6{c:UInt8}:∀{s:ev},c∉s->zQ c s=[s]
 |[],_=>rfl
 |b::s,h=>by
  have a:b≠c:=fun e=>h (by simp[e]);have d:=C6 (s:=s) (c:=c) (fun f=>h (mem_cons_of_mem _ f));simp only[zQ,if_neg a,d]
theorem PI{c:UInt8}:∀{a b:ev},c∉a->zQ c (a++c::b)=a::zQ c b
 |[],b,_=>by simp[zQ]
 |x::a,b,h=>by
  have hx:x≠c:=fun e=>h (by simp[e]);have:=PI (a:=a) (b:=b) (c:=c) (fun d=>h (mem_cons_of_mem _ d));simp only[cons_append,zQ,if_neg hx,this]
theorem Ny(c:UInt8)(s:ev):zQ c s=if (eW c s).2.2=true then(eW c s).1::zQ c (eW c s).2.1 else [s]:=by
 by_cases h:c∈s
 .obtain⟨a,b,d⟩:=uK h;rw[if_pos a];conv=>lhs;rw[b]
  exact PI d
 .rw[HV h];simpa using C6 h
theorem CN(c:UInt8)(s:ev):(eW c s).1.length<=s.length/\(eW c s).2.1.length<=s.length/\((eW c s).2.2=true->(eW c s).1.length+(eW c s).2.1.length+1=s.length):=by
 by_cases h:c∈s
 .obtain⟨b,a,d⟩:=uK h;have:=congrArg List.length a;simp only[length_append,length_cons]at this;exact⟨by omega,by omega,fun _=>by omega⟩
 .rw[HV h];simp
theorem NH{c:UInt8}:∀{s:ev} {p:ev},p∈zQ c s->p.length<=s.length
 |[],p,h=>by simp[zQ]at h;simp[h]
 |b::s,p,h=>by
  simp only[zQ]at h;split at h
  .rcases mem_cons.1 h with rfl|h
   .simp
   .have:=NH h;simp;omega
  .split at h
   .rename_i e;exact absurd e (CS c s)
   .rename_i a t e;rcases mem_cons.1 h with rfl|h
    .have:=NH (s:=s) (p:=a) (c:=c) (by rw[e];simp);simp;omega
    .have:=NH (s:=s) (p:=p) (c:=c) (by rw[e];simp[h]);simp;omega
theorem NK(c:UInt8)(s:ev):(zQ c s).length=s.count c+1:=by
 induction s with
 |nil=>rfl
 |cons b s a =>
  simp only[zQ];split
  .rename_i e;subst e;simp[a]
  .rename_i e;rw[count_cons_of_ne (by simpa using e)];split
   .rename_i d;exact absurd d (CS c s)
   .rename_i d;rw[d]at a;simpa using a
def qo(s:ev)(c:UInt8):Int:=Lib.indexByte s c
theorem lK(c:UInt8):∀s:ev,qo s c=if c∈s then((eW c s).1.length:Int)else -1
 |[]=>rfl
 |b::s=>by
  have d:=lK c s;unfold qo at *;unfold Lib.indexByte;by_cases a:b=c
  .subst a;simp[eW]
  .rw[if_neg (by simpa using a),d];simp only[eW,if_neg a,mem_cons,Ne.symm a,false_or];by_cases h:c∈s
   .rw[if_pos h,if_pos h];simp
   .rw[if_neg h,if_neg h];rfl
theorem nU{c:UInt8}{s:ev}(h:c∉s):qo s c=-1:=by rw[lK,if_neg h]
theorem MI{c:UInt8}{s:ev}(h:c∈s):qo s c=((eW c s).1.length:Int):=by rw[lK,if_pos h]
theorem Nc{c:UInt8}{s:ev}(h:c∈s):s.take (eW c s).1.length=(eW c s).1/\s.drop ((eW c s).1.length+1)=(eW c s).2.1:=by
 obtain⟨b,a,d⟩:=uK h;generalize eW c s=q at a|-;subst a;constructor
 .exact take_left' rfl
 .rw[<-drop_drop,drop_left' rfl];rfl
theorem Ko(c:UInt8):((([c]:ev).length:Nat):Int)=1:=rfl
theorem Dg(i:Nat)(c:UInt8)(h:i<9223372036854775807):IntKind.i64.wrap ((i:Int)+((([c]:ev).length:Nat):Int))=((i+1:Nat):Int):=fw i h
theorem Sk(s:ev)(c:UInt8):xV s (c.toNat:Int)=qo s c:=by
 unfold xV qo;congr 1;simp
theorem m9(s:ev)(c:UInt8):GP s [c]=some (qo s c):=by
 unfold GP GQ;by_cases h:s=[c]
 .subst h;simp[qo,Lib.indexByte]
 .have:(decide (([c]:ev)=s))=false:=by simpa using fun e=>h e.symm
  simp only[this,Ko,show decide ((1:Int)=0)=false from rfl,show decide ((1:Int)=1)=true from rfl,decide_true,Bool.or_false,cond_false,cond_true];show fI [c] ((0:Nat):Int) _=_;rw[sE (by simp)];simp only[zf,getElem_cons_zero,Sk]
theorem Ht(s:ev)(c:UInt8):BZ s [c]=some (qo s c):=by
 unfold BZ;rw[m9];rfl
theorem oC(s:ev)(c:UInt8):Iu s [c]=some ((s.count c:Nat):Int):=by
 unfold Iu;simp only[Ko,show decide ((1:Int)=0)=false from rfl,show decide ((1:Int)=1)=true from rfl,decide_true,cond_false,cond_true];show fI [c] ((0:Nat):Int) _=_;rw[sE (by simp)];unfold yv;simp
theorem Fs(s:ev)(c:UInt8)(e:s.length<=1099511627776):Ik s [c]=some (eW c s):=by
 unfold Ik NR;rw[m9];simp only[zf];by_cases h:c∈s
 .obtain⟨a,f,g⟩:=uK h;have i:=(CN c s).2.2 a;obtain⟨b,d⟩:=Nc h;rw[MI h,decide_eq_true (by omega),cond_true];rw[zg (by omega)];simp only[Dg _ c (show(eW c s).1.length<9223372036854775807 by omega)];rw[zg (by omega)];simp only[Int.toNat_natCast,b,d,zf];rw[show true=(eW c s).2.2 from a.symm]
 .rw[nU h];simp only[show decide ((0:Int)<=-1)=false from rfl,cond_false,zf];rw[HV h]
theorem SG{c:UInt8}{s:ev}(h:c∈s):(eW c s).2.1.count c+1=s.count c:=by
 obtain⟨d,a,b⟩:=uK h;conv=>rhs;rw[a]
 rw[count_append,count_eq_zero_of_not_mem b,count_cons_self];omega
theorem CK{α:Type}(l:List α)(i:Nat)(x:α)(h:i<l.length):(l.set i x).take (i+1)=l.take i++[x]:=by rw[take_succ_eq_append_getElem (by simpa using h)];simp[take_set_of_le]
theorem OL(s:ev)(c:UInt8)(y:s.length<=17179869184):C5 s [c]=some (zQ c s):=by
 have n:=count_le_length (a:=c) (l:=s);have key:uT s [c] 0 (-1)=some (zQ c s):=by
  unfold uT;obtain⟨N,g⟩:∃N,ff=N:=⟨_,rfl⟩;have p:1099511627776<=N:=g ▸ qM;rw[g];clear g;have e:min ((s.count c+1:Nat):Int) ((s.length+1:Nat):Int)=((s.count c+1:Nat):Int):=by omega
  simp only[eJ,oC,zf,show decide ((-1:Int)=0)=false from rfl,show decide ((-1:Int)<0)=true from rfl,show decide (([c]:ev)=[])=false from rfl,cond_true,cond_false];simp only[fw (s.count c) (by omega),fw s.length (by omega),e];rw[zg (by omega)];have q:IntKind.i64.wrap (((s.count c+1:Nat):Int)-1)=((s.count c:Nat):Int):=by rw[gj (by omega) (by omega)];omega
  simp only[q,Int.toNat_natCast];refine(pq (S:=ev×Int×List ev) (fun d=>∃i:Nat,d.2.1=i/\d.2.2.length=s.count c+1/\d.1.length<=s.length/\i+d.1.count c=s.count c) (fun d=>s.count c-d.2.1.toNat)
   (fun d=>some (d.2.2.take d.2.1.toNat++zQ c d.1)) ?_ N _ ⟨0,rfl,by simp,Nat.le_refl _,by simp⟩ (by simp only;omega)).trans ?_
  .rintro⟨t,z,o⟩ nx ⟨i,rfl,k,r,u⟩ f;simp only at k r u f|-;simp only[Ht,zf];by_cases hi:i<s.count c
   .have b:c∈t:=by rw[<-count_pos_iff];omega
    obtain⟨m,A,B⟩:=uK b;have C:=(CN c t).2.2 m;obtain⟨v,w⟩:=Nc b;rw[decide_eq_true (by omega),cond_true,MI b,decide_eq_false (by omega),cond_false];have h:IntKind.i64.wrap (((eW c t).1.length:Int)+0)=((eW c t).1.length:Int):=by rw[gj (by omega) (by omega)];omega
    have j:IntKind.i64.wrap (((eW c t).1.length:Int)+(([c]:ev).length:Int))=(((eW c t).1.length+1:Nat):Int):=fw _ (by omega);simp only[h,j,fw i (by omega),Int.toNat_natCast];rw[zg (by omega),zg (by omega),zg (by omega)];have x:=SG b;simp only[v,w];rw[f _ ⟨i+1,rfl,by simpa using k,by simp only;omega,by simp only;omega⟩ (by simp only[Int.toNat_natCast];omega)];simp only[Int.toNat_natCast];rw[CK o i _ (by omega)];congr 1;rw[show zQ c t=(eW c t).1::zQ c (eW c t).2.1 by rw[Ny,if_pos m]];simp
   .obtain rfl:i=s.count c:=by omega
    rw[decide_eq_false (by omega),cond_false];have b:c∉t:=by rw[<-count_pos_iff];omega
    rw[zg (by omega),fw _ (by omega)];simp only[Int.toNat_natCast,length_set];rw[zg (by omega),CK o _ _ (by omega),C6 b]
  .simp
 unfold C5;rw[key];rfl
def gL{α:Type}(q:Nat->α->Bool):Nat->List α->Bool
 |_,[]=>true
 |i,x::l=>q i x&&gL q (i+1) l
section
variable {Z α:Type}
theorem ko{f:Nat->α->Unit->(Unit->Option Z)->(Unit->Option Z)->Option Z}{z:Z}(q:Nat->α->Bool)(a:∀i x nx k,f i x () nx k=bif q i x then nx ()else some z)(k:Unit->Option Z) :
  ∀(l:List α) (i:Nat),forL l i f () k=bif gL q i l then k ()else some z
 |[],i=>rfl
 |x::l,i=>by
  unfold forL gL;rw[a,ko q a k l (i+1)];cases q i x <;> rfl
end
def yo(c:UInt8):Bool:=decide (97<=(c.toNat:Int))&&decide ((c.toNat:Int)<=122)
def i1(c:UInt8):Bool:=decide (48<=(c.toNat:Int))&&decide ((c.toNat:Int)<=57)
def qJ(c:UInt8):Bool:=((yo c||i1 c)||decide ((c.toNat:Int)=45))||decide ((c.toNat:Int)=46)
def fY(s:ev):Bool:=((s.all qJ&&(!decide (s=[])&&decide ((s.length:Int)<=40)))&&yo (s.getD 0 0))
theorem VE(a b:Bool):(a||bif !a then b else false)=(a||b):=by cases a <;> rfl
theorem Ur(c:UInt8):Iy (c.toNat:Int)=some (qJ c):=by unfold Iy BU Gu;simp only[zf,gU,VE];rfl
theorem Sr(s:ev):CT s=some (fY s):=by
 unfold CT Nz;simp only[eJ];rw[yB qJ (fun i x nx k=>by simp only[Ur,zf];cases qJ x <;> rfl)];simp only[qK,zf];rw[zg]
 .unfold BU;simp only[gU];unfold fY yo;generalize a:s.all qJ=A;cases A <;> simp only[cond_true,cond_false,Bool.false_and,Bool.true_and]
  generalize b:(!decide (s=[])&&decide ((s.length:Int)<=40))=B;cases B <;> rfl
 .intro h;cases s with
  |nil=>cases a:List.all [] qJ <;> rw[a]at h <;> simp at h
  |cons=>simp only[length_cons];omega
theorem oW{α:Type}{q:Nat->α->Bool}{p:α->Bool}:∀(l:List α) (i:Nat),(∀j x,i<=j->q j x=p x)->gL q i l=l.all p
 |[],i,_=>rfl
 |x::l,i,h=>by unfold gL;rw[h i x (Nat.le_refl _),oW l (i+1) (fun j x a=>h j x (by omega)),all_cons]
theorem yb(s:ev):qO s=some (fY s):=by
 unfold qO;simp only[eJ];refine(ko (z:=false) (fun i c=>!((decide ((i:Int)=0)&&!yo c)||!qJ c)) (fun i c nx k=>?_) _ _ _).trans ?_
 .rw[hZ];congr 1;unfold qJ yo i1;rw[Bool.eq_iff_iff];simp only[Bool.or_eq_true,Bool.and_eq_true,Bool.not_eq_true',decide_eq_true_eq,Bool.or_eq_false_iff,Bool.and_eq_false_iff,decide_eq_false_iff_not,Bool.not_eq_false'];omega
 simp only[qK];congr 1;unfold fY;cases s with
 |nil=>rfl
 |cons x l =>
  unfold gL;rw[oW (p:=qJ) l 1 (fun j x a=>by rw[decide_eq_false (by omega)];cases qJ x <;> rfl),all_cons];simp only[getD_cons_zero];cases qJ x <;> cases yo x <;> cases l.all qJ <;> simp
def yQ(c:UInt8):Bool:=decide (32<=(c.toNat:Int))&&decide ((c.toNat:Int)<=126)
def xZ(s:ev):Bool:=s.all yQ&&decide ((s.length:Int)<=1000)
theorem PR(s:ev):CM s=some (xZ s):=by
 unfold CM;simp only[eJ];refine(yB (z:=false) yQ (fun i c nx k=>?_) _ _ _).trans ?_
 .rw[hZ];congr 1;unfold yQ;rw[Bool.eq_iff_iff];simp only[Bool.or_eq_true,Bool.and_eq_true,Bool.not_eq_true',decide_eq_true_eq,Bool.or_eq_false_iff,Bool.and_eq_false_iff,decide_eq_false_iff_not,Bool.not_eq_false'];omega
 .simp only[qK];unfold xZ;cases s.all yQ <;> rfl
def ym(c:UInt8):Bool:=((((yo c||(decide (65<=(c.toNat:Int))&&decide ((c.toNat:Int)<=90)))||i1 c)||decide ((c.toNat:Int)=45))||decide ((c.toNat:Int)=46))||decide ((c.toNat:Int)=95)
def uy(s:ev):Bool:=((s.all ym&&(!decide (s=[])&&decide ((s.length:Int)<=40)))&&!decide (s=[46]))&&!decide (s=[46,46])
theorem pc(s:ev):Hm s=some (uy s):=by
 unfold Hm;simp only[eJ];refine(yB (z:=false) ym (fun i c nx k=>?_) _ _ _).trans ?_
 .rw[hZ];congr 1;unfold ym yo i1;rw[Bool.eq_iff_iff];simp only[Bool.or_eq_true,Bool.and_eq_true,Bool.not_eq_true',decide_eq_true_eq,Bool.or_eq_false_iff,Bool.and_eq_false_iff,decide_eq_false_iff_not,Bool.not_eq_false'];omega
 .simp only[qK];unfold uy;cases s.all ym <;> rfl
theorem Qx(a b d:Bool):((a||b)||bif !(a||b)then d else false)=((a||b)||d):=by cases a <;> cases b <;> rfl
theorem Tw(s:ev):HQ s=some (uy s):=by
 unfold HQ NA;simp only[eJ];rw[yB ym (fun i x nx k=>by
  unfold Nu ym BU Gu yo i1;simp only[zf,gU,Qx];rw[hZ,Bool.not_not])]
 simp only[qK,zf];unfold uy;cases s.all ym <;> rfl
def fS(s:ev):Bool:=(zQ 47 s).all uy&&decide ((s.length:Int)<=200)
theorem CX(s:ev)(a:s.length<=17179869184):uJ s=some (fS s):=by
 unfold uJ fS;simp only[eJ,OL s 47 a,zf];rw[yB uy (fun i x nx k=>by rw[pc,zf,hZ,Bool.not_not])];cases (zQ 47 s).all uy <;> rfl
theorem Tv(s:ev)(a:s.length<=17179869184):HP s=some (fS s):=by
 unfold HP fS;simp only[eJ,OL s 47 a,zf];rw[yB uy (fun i x nx k=>by rw[Tw,zf,hZ,Bool.not_not])];cases (zQ 47 s).all uy <;> rfl
def B3(a b:ev):Bool:=sy a b||decide (a=b)
theorem uf(b:Bool)(e:Int):ic b e=some (bif b then e else 0):=by cases b <;> rfl
def fg(a b:Int):Int:=bif !decide (a=0)then a else b
theorem Ff(a:Int):ig [a]=some a:=by
 unfold ig;simp only[eJ,forL];by_cases h:a=0
 .subst h;rfl
 .rw[decide_eq_false h];rfl
theorem Nf(a:Int)(l:List Int)(r:Int)(h:ig l=some r):ig (a::l)=some (fg a r):=by
 unfold ig at *;simp only[eJ,forL]at *;unfold fg;by_cases f:a=0
 .subst f;simp only[decide_true,Bool.not_true,cond_false];rw[<-h]
  have:∀(l:List Int) (i j:Nat),forL l i (fun d b s c e=>bif !decide (b=0)then some b else c ()) () (fun _=>some (0:Int))=forL l j (fun d b s c e=>bif !decide (b=0)then some b else c ()) () (fun _=>some (0:Int)):=by
   intro l;induction l with
   |nil=>intro i j;rfl
   |cons x l g=>intro i j;unfold forL;simp only[g (i+1) (j+1)]
  exact this l _ _
 .rw[decide_eq_false f];rfl
theorem yq(a b:Int):ig [a,b]=some (fg a b):=Nf a _ _ (Ff b)
theorem FM(a b c:Int):ig [a,b,c]=some (fg a (fg b c)):=Nf a _ _ (yq b c)
def kw(s:ab):Int:=bif !fY s.u then 5 else bif !xZ s.Value then 2 else 0
def lY(s:ab):Int:=bif !fS s.u then 5 else bif !xZ s.Value then 2 else 0
def jb(f:ae):Int:=bif !fS f.a then 5 else bif decide (65536<(f.G.length:Int))then 4 else 0
def ir(s:ah):Int:=bif !fY s.C||!fS s.a then 5 else 0
def ord(i:Nat)(a b:ev):Bool:=decide (0<(i:Int))&&B3 a b
def pk{α:Type}(e:α->Int)(nm:α->ev):Nat->ev->List α->Int
 |_,_,[]=>0
 |i,a,x::l=>bif !decide (e x=0)then e x else bif ord i (nm x) a then 7 else pk e nm (i+1) (nm x) l
theorem oh{α:Type}(e:α->Int)(c:α->ev)(a b:ev)(l:List α):pk e c 0 a l=pk e c 0 b l:=by cases l <;> rfl
section
variable {Z α:Type} {e:α->Int} {nm:α->ev}
theorem B8{f:Nat->α->ev->(ev->Option Int)->(ev->Option Int)->Option Int}{K:ev->Option Int}(P:α->Prop)
  (c:∀i x a nx k,P x->f i x a nx k=bif !decide (fg (e x) (bif ord i (nm x) a then 7 else 0)=0)then some (fg (e x) (bif ord i (nm x) a then 7 else 0))else nx (nm x)) :
  ∀(l:List α) (i:Nat) (a:ev),(∀x∈l,P x)->∃b,forL l i f a K=bif !decide (pk e nm i a l=0)then some (pk e nm i a l)else K b
 |[],i,a,_=>⟨a,rfl⟩
 |x::l,i,a,d=>by
  obtain⟨b,h⟩:=B8 P c l (i+1) (nm x) (fun y j=>d y (mem_cons_of_mem _ j));refine⟨b,?_⟩;unfold forL pk;rw[c _ _ _ _ _ (d x (mem_cons_self ..)),h];unfold fg;by_cases g:e x=0
  .simp only[g,decide_true,Bool.not_true,cond_false];cases ord i (nm x) a <;> rfl
  .simp only[decide_eq_false g,Bool.not_false,cond_true]
end
theorem Ms(i:Nat)(s a:ev):BP (i:Int) s a=some ((bif ord i s a then 7 else 0),s):=by
 unfold BP;rw[uf,zf];rfl
def Sm(s:ev):Prop:=s.length<=17179869184
theorem SE(f:ae)(h:Sm f.a):Gn f=some (jb f):=by
 unfold Gn;rw[CX _ h];simp only[zf,uf,yq];unfold jb fg;cases fS f.a <;> rfl
theorem SS(f:ab)(h:Sm f.u):GD f=some (lY f):=by
 unfold GD;rw[CX _ h,PR];simp only[zf,uf,yq];unfold lY fg;cases fS f.u <;> rfl
theorem SR(f:ah)(h:Sm f.a):GC f=some (ir f):=by
 unfold GC;rw[CX _ h,yb];simp only[zf,gU,uf];unfold ir;cases fY f.C <;> cases fS f.a <;> rfl
abbrev Mp:=List (ev×Bool)
def iw(m:Mp)(a:ev)(i:Nat)(c:UInt8):Bool:=!(decide ((c.toNat:Int)=47)&&(eG m (a.take i)).getD false)
def Bo(m:Mp)(a:ev):Bool:=gL (iw m a) 0 a
def uw:Nat->ev->Mp->List ae->Int
 |_,_,_,[]=>0
 |i,b,m,x::l=>bif !decide (jb x=0)then jb x else bif ord i x.a b then 7 else bif !Bo m x.a then 11 else uw (i+1) x.a (eM m x.a true) l
theorem om(a b:ev)(m:Mp)(l:List ae):uw 0 a m l=uw 0 b m l:=by cases l <;> rfl
theorem Oj:∀(m:Mp) (k:ev) (v:Bool),(eM m k v).length<=m.length+1
 |[],k,v=>by simp[eM]
 |p::m,k,v=>by
  unfold eM;have:=Oj m k v;cases decide (p.1=k) <;> simp <;> omega
theorem Rl(a:ev)(m:Mp){f:Int×Int->(Int×Int->Option Int)->(Int×Int->Option Int)->Option Int}{K:Int×Int->Option Int}(c:a.length<=17179869184)
  (b:∀(e:Int) (i:Nat) nx,f (e,(i:Int)) nx K=if h:i<a.length then nx ((bif iw m a i a[i]then e else 11),((i+1:Nat):Int))else K (e,(i:Int))) :
  ∀(n:Nat) (e:Int) (i:Nat),a.length+1<=n+i->i<=a.length->loopN n f (e,(i:Int)) K=K ((bif gL (iw m a) i (a.drop i)then e else 11),(a.length:Int))
 |0,e,i,d,g=>by omega
 |n+1,e,i,d,g=>by
  unfold loopN;rw[b];by_cases h:i<a.length
  .rw[dif_pos h,Rl a m c b n _ (i+1) (by omega) (by omega),drop_eq_getElem_cons h];rw[show gL (iw m a) i (a[i]::a.drop (i+1))=(iw m a i a[i]&&gL (iw m a) (i+1) (a.drop (i+1)))from rfl];cases iw m a i a[i] <;> cases gL (iw m a) (i+1) (a.drop (i+1)) <;> rfl
  .have:i=a.length:=by omega
   subst this;rw[dif_neg h,drop_length];rfl
theorem wT{f:Nat->ae->ev×Mp->(ev×Mp->Option Int)->(ev×Mp->Option Int)->Option Int}{K:ev×Mp->Option Int}
  (d:∀(i:Nat) x b (m:Mp) nx,Sm x.a->m.length+1<=17179869184->f i x (b,m) nx K=bif !decide (jb x=0)then some (jb x)else bif ord i x.a b then some 7 else bif !Bo m x.a then some 11 else nx (x.a,eM m x.a true)) :
  ∀(l:List ae) (i:Nat) (b:ev) (m:Mp),m.length+l.length<=17179869184->(∀x∈l,Sm x.a)->∃c,forL l i f (b,m) K=bif !decide (uw i b m l=0)then some (uw i b m l)else K c
 |[],i,b,m,_,_=>⟨(b,m),rfl⟩
 |x::l,i,b,m,j,e=>by
  have n:=Oj m x.a true;simp only[length_cons]at j;obtain⟨c,h⟩:=wT d l (i+1) x.a (eM m x.a true) (by omega) (fun y k=>e y (mem_cons_of_mem _ k));refine⟨c,?_⟩;unfold forL uw;rw[d _ _ _ _ _ (e x (mem_cons_self ..)) (by omega),h];by_cases g:jb x=0
  .simp only[g,decide_true,Bool.not_true,cond_false];cases ord i x.a b
   .cases Bo m x.a <;> rfl
   .rfl
  .simp only[decide_eq_false g,Bool.not_false,cond_true]
def Cs(m:ak):Int :=
 bif ((((decide (100<(m.F.length:Int)))||(decide (2000<(m.B.length:Int))))||(decide (2000<(m.E.length:Int))))||(decide (100<(m.D.length:Int))))then 4 else
 fg (pk kw (·.u) 0 [] m.F) (fg (uw 0 [] [] m.B) (fg (pk lY (·.u) 0 [] m.E) (pk ir (·.C) 0 [] m.D)))
structure GW(m:ak):Prop where
 facts:m.F.length<=17179869184
 files:m.B.length<=17179869184
 sets:m.E.length<=17179869184
 svcs:m.D.length<=17179869184
 fp:∀x∈m.B,Sm x.a
 sp:∀x∈m.E,Sm x.u
 vp:∀x∈m.D,Sm x.a
theorem ny(a b:Int)(o:Option Int)(h:o=some b):(bif !decide (a=0)then some a else o)=some (fg a b):=by subst h;unfold fg;cases decide (a=0) <;> rfl
theorem OP{α:Type}{e:α->Int}{nm:α->ev}{f:Nat->α->ev->(ev->Option Int)->(ev->Option Int)->Option Int}{K:ev->Option Int}{r:Int}{l:List α}{a:ev}(P:α->Prop)
  (c:∀i x a nx k,P x->f i x a nx k=bif !decide (fg (e x) (bif ord i (nm x) a then 7 else 0)=0)then some (fg (e x) (bif ord i (nm x) a then 7 else 0))else nx (nm x))
  (d:∀x∈l,P x) (g:∀a,K a=some r):forL l 0 f a K=some (fg (pk e nm 0 [] l) r):=by
 obtain⟨b,h⟩:=B8 (K:=K) P c l 0 a d;rw[h,oh e nm a []];exact ny _ _ _ (g _)
theorem tu{f:Nat->ae->ev×Mp->(ev×Mp->Option Int)->(ev×Mp->Option Int)->Option Int}{K:ev×Mp->Option Int}{r:Int}{l:List ae}{b:ev}
  (c:∀(i:Nat) x b (m:Mp) nx,Sm x.a->m.length+1<=17179869184->f i x (b,m) nx K=bif !decide (jb x=0)then some (jb x)else bif ord i x.a b then some 7 else bif !Bo m x.a then some 11 else nx (x.a,eM m x.a true))
  (d:l.length<=17179869184) (e:∀x∈l,Sm x.a) (g:∀s,K s=some r):forL l 0 f (b,[]) K=some (fg (uw 0 [] [] l) r):=by
 obtain⟨j,h⟩:=wT (K:=K) c l 0 b [] (by simpa using d) e;rw[h,om b []];exact ny _ _ _ (g _)
theorem tR(a:ev)(m:Mp){f:Int×Int->(Int×Int->Option Int)->(Int×Int->Option Int)->Option Int}{K:Int×Int->Option Int}{N:Nat}{e:Int}(d:1099511627776<=N)(b:a.length<=17179869184)
  (c:∀(e:Int) (i:Nat) nx,f (e,(i:Int)) nx K=if h:i<a.length then nx ((bif iw m a i a[i]then e else 11),((i+1:Nat):Int))else K (e,(i:Int))) :
  loopN N f (e,0) K=K ((bif Bo m a then e else 11),(a.length:Int)) :=
 Rl a m b c N e 0 (by omega) (by omega)
theorem H3(m:ak)(h:GW m):yu m=some (Cs m):=by
 unfold yu Cs;generalize ((((decide (100<(m.F.length:Int)))||(decide (2000<(m.B.length:Int))))||(decide (2000<(m.E.length:Int))))||(decide (100<(m.D.length:Int))))=B;obtain⟨N,f⟩:∃N,ff=N:=⟨_,rfl⟩;have g:1099511627776<=N:=f ▸ qM;rw[f];clear f;cases B with
 |true=>rfl
 |false =>
  simp only[cond_false,eJ];refine OP (e:=kw) (nm:=(·.u)) (fun _=>True) (fun i x b nx k _=>?_) (fun _ _=>trivial) fun b=>?_
  .simp only[yb,PR,zf,uf,Ms,FM];unfold kw fg;cases fY x.u <;> cases xZ x.Value <;> cases ord i x.u b <;> rfl
  refine tu (fun i x b c nx hx l=>?_) h.files h.fp fun s=>?_
  .have n:=Oj c x.a true;simp only[SE _ hx,zf,Ms,yq];by_cases d:jb x=0
   .cases o:ord i x.a b with
    |true=>simp only[d,cond_true,show fg 0 7=7 from rfl];rfl
    |false =>
     simp only[d,cond_false,show fg 0 0=0 from rfl,decide_true,Bool.not_true,cond_true];rw[tR x.a c g hx (fun e i nx=>?_)]
     .rw[zg (by omega)];cases Bo c x.a <;> rfl
     .simp only[fK];by_cases hi:i<x.a.length
      .rw[dif_pos hi,decide_eq_true (by omega),cond_true,sE hi,zg (by intro _;omega)]
       have j:IntKind.i64.wrap ((i:Int)+1)=((i+1:Nat):Int):=by
        have:x.a.length<=17179869184:=hx;rw[gj (by omega) (by omega)];rfl
       simp only[j,Int.toNat_natCast];unfold iw;cases decide (((x.a[i]).toNat:Int)=47)&&(eG c (List.take i x.a)).getD false <;> rfl
      .rw[dif_neg hi,decide_eq_false (by omega),cond_false]
   .have:fg (jb x) (bif ord i x.a b then 7 else 0)=jb x:=by unfold fg;rw[decide_eq_false d];rfl
    simp only[this,decide_eq_false d,Bool.not_false,cond_true,cond_false]
  obtain⟨b,c⟩:=s;refine OP (e:=lY) (nm:=(·.u)) (fun x=>Sm x.u) (fun i x b nx k hx=>?_) h.sp fun b=>?_
  .simp only[SS _ hx,zf,Ms,yq]
  rw[show pk ir (fun x=>x.C) 0 [] m.D=fg (pk ir (fun x=>x.C) 0 [] m.D) 0 by unfold fg;cases p:decide (pk ir (fun x=>x.C) 0 [] m.D=0) <;> simp_all];refine OP (e:=ir) (nm:=(·.C)) (fun x=>Sm x.a) (fun i x b nx k hx=>?_) h.vp fun b=>rfl;simp only[SR _ hx,zf,Ms,yq]
def jf:ae:=⟨[],[],false⟩
def mH:ab:=⟨[],[]⟩
def iC:ah:=⟨[],[],false,false⟩
def mI(c:ai):Int :=
 bif decide (c.g=1)then jb c.j else
 bif decide (c.g=2)then(bif !fS c.j.a then 5 else 0)else
 bif decide (c.g=3)then lY c.x else
 bif decide (c.g=4)then(bif !fS c.x.u then 5 else 0)else
 bif decide (c.g=5)then ir c.h else
 bif !fY c.h.C then 5 else 0
def iR(c:ai):ai :=
 bif decide (c.g=1)then⟨c.g,c.j,mH,iC⟩else
 bif decide (c.g=2)then⟨c.g,⟨c.j.a,[],false⟩,mH,iC⟩else
 bif decide (c.g=3)then⟨c.g,jf,c.x,iC⟩else
 bif decide (c.g=4)then⟨c.g,jf,⟨c.x.u,[]⟩,iC⟩else
 bif decide (c.g=5)then⟨c.g,jf,mH,c.h⟩else
 ⟨c.g,jf,mH,⟨c.h.C,[],false,false⟩⟩
def FQ(c:ai):Bool:=decide (1<=c.g)&&decide (c.g<=6)
def lX(a b:ae):Bool:=decide (a.a=b.a)&&(decide (a.G=b.G)&&decide (a.H=b.H))
def rW(a b:ab):Bool:=decide (a.u=b.u)&&decide (a.Value=b.Value)
def rV(a b:ah):Bool:=decide (a.C=b.C)&&(decide (a.a=b.a)&&(decide (a.I=b.I)&&decide (a.J=b.J)))
def Ch(a b:ai):Bool:=(lX a.j b.j&&(rW a.x b.x&&rV a.h b.h))
theorem tA{a b:ae}(h:lX a b=true):a=b:=by
 obtain⟨c,d,e⟩:=a;obtain⟨f,g,i⟩:=b;simp only[lX,Bool.and_eq_true,decide_eq_true_eq]at h;obtain⟨rfl,rfl,rfl⟩:=h;rfl
theorem wY{a b:ab}(h:rW a b=true):a=b:=by
 obtain⟨c,d⟩:=a;obtain⟨e,f⟩:=b;simp only[rW,Bool.and_eq_true,decide_eq_true_eq]at h;obtain⟨rfl,rfl⟩:=h;rfl
theorem wX{a b:ah}(h:rV a b=true):a=b:=by
 obtain⟨c,d,e,f⟩:=a;obtain⟨g,i,j,k⟩:=b;simp only[rV,Bool.and_eq_true,decide_eq_true_eq]at h;obtain⟨rfl,rfl,rfl,rfl⟩:=h;rfl
theorem Fk{a b:ai}(c:a.g=b.g)(h:Ch a b=true):a=b:=by obtain⟨i,j,k,l⟩:=a;obtain⟨m,n,o,p⟩:=b;simp only[Ch,Bool.and_eq_true]at h;obtain⟨d,e,f⟩:=h;simp only at c;rw[c,tA d,wY e,wX f]
def mF(c:ai):Int:=bif !FQ c then 1 else bif decide (mI c=0)&&!Ch c (iR c)then 2 else mI c
structure kL(c:ai):Prop where
 fp:Sm c.j.a
 sp:Sm c.x.u
 vp:Sm c.h.a
theorem ws{n:Int}(h:(decide (1<=n)&&decide (n<=6))=true):n=1∨n=2∨n=3∨n=4∨n=5∨n=6:=by simp only[Bool.and_eq_true,decide_eq_true_eq]at h;omega
theorem EA{n:Int}(h:(decide (1<=n)&&decide (n<=6))=false):decide (n=1)=false/\decide (n=2)=false/\decide (n=3)=false/\decide (n=4)=false/\decide (n=5)=false/\decide (n=6)=false:=by
 simp only[Bool.and_eq_false_iff,decide_eq_false_iff_not]at h;refine⟨?_,?_,?_,?_,?_,?_⟩ <;> (simp only[decide_eq_false_iff_not];omega)
theorem vW(a:Int)(q:Bool):fg a (bif !q then 2 else 0)=bif decide (a=0)&&!q then 2 else a:=by
 unfold fg;by_cases h:a=0
 .subst h;cases q <;> rfl
 .rw[decide_eq_false h];rfl
theorem Rw(c:ai)(h:kL c):Gv c=some (mF c):=by
 unfold Gv mF FQ;simp only[eJ];cases a:decide (1<=c.g)&&decide (c.g<=6)
 .obtain⟨b,d,f,i,j,k⟩:=EA a;rw[b,d,f,i,j,k];rfl
 .simp only[Bool.not_true,cond_false];rw[SE _ h.fp,SS _ h.sp,SR _ h.vp,yb,CX _ h.fp,CX _ h.sp];simp only[zf,uf,yq,decide_true,Bool.true_and,vW];unfold mI iR;rcases ws a with e|e|e|e|e|e
  all_goals
   rw[e];simp only[show decide ((1:Int)=1)=true from rfl,show decide ((2:Int)=1)=false from rfl,show decide ((2:Int)=2)=true from rfl,show decide ((3:Int)=1)=false from rfl,show decide ((3:Int)=2)=false from rfl,show decide ((3:Int)=3)=true from rfl,show decide ((4:Int)=1)=false from rfl,show decide ((4:Int)=2)=false from rfl,show decide ((4:Int)=3)=false from rfl,show decide ((4:Int)=4)=true from rfl,
    show decide ((5:Int)=1)=false from rfl,show decide ((5:Int)=2)=false from rfl,show decide ((5:Int)=3)=false from rfl,show decide ((5:Int)=4)=false from rfl,show decide ((5:Int)=5)=true from rfl,show decide ((6:Int)=1)=false from rfl,show decide ((6:Int)=2)=false from rfl,show decide ((6:Int)=3)=false from rfl,show decide ((6:Int)=4)=false from rfl,show decide ((6:Int)=5)=false from rfl,show decide ((6:Int)=6)=true from rfl,decide_true,cond_true,cond_false]
   simp only[qK,Ch,lX,rW,rV,jf,mH,iC,decide_true,Bool.true_and,Bool.and_true,Bool.and_assoc]
  .rfl
  .rfl
  .rfl
  .rfl
  .rfl
  .rfl
theorem MY{c:ai}(h:mF c=0):FQ c=true/\mI c=0/\c=iR c:=by
 unfold mF at h;cases b:FQ c
 .rw[b]at h;simp at h
 .rw[b]at h;simp only[Bool.not_true,cond_false]at h;cases a:decide (mI c=0)&&!Ch c (iR c)
  .rw[a,cond_false]at h;rw[h]at a;simp only[decide_true,Bool.true_and,Bool.not_eq_false']at a;refine⟨rfl,h,Fk ?_ a⟩;unfold iR;cases decide (c.g=1) <;> cases decide (c.g=2) <;> cases decide (c.g=3) <;> cases decide (c.g=4) <;> cases decide (c.g=5) <;> rfl
  .rw[a]at h;simp at h
theorem I5(n:Nat)(h:n<18446744073709551616):IntKind.u64.wrap (n:Int)=n:=by unfold IntKind.wrap;simp only[IntKind.bits,IntKind.signed,Bool.false_and,Bool.false_eq_true,if_false];omega
theorem mN(n:Int):∃m:Nat,IntKind.u64.wrap n=m/\m<18446744073709551616:=by refine⟨(n % 18446744073709551616).toNat,?_,by omega⟩;unfold IntKind.wrap;simp only[IntKind.bits,IntKind.signed,Bool.false_and,Bool.false_eq_true,if_false];omega
theorem vt(n c:Nat)(k:IntKind)(a:c<=k.bits):Int.fdiv (n:Int) (2^(fA k (c:Int)))=((n / 2^c:Nat):Int):=by
 have:fA k (c:Int)=c:=by unfold fA;simp;omega
 rw[this,Int.fdiv_eq_ediv_of_nonneg _ (Int.le_of_lt (Int.pow_pos (by decide)))];rw[Int.natCast_ediv,Int.natCast_pow];rfl
theorem oU(n c m:Nat)(h:n<18446744073709551616)(a:m=2^c-1)(e:c<64):fl .and .u64 (n:Int) (m:Int)=((n % 2^c:Nat):Int):=by
 subst a;have f:2^c<=2^63:=Nat.pow_le_pow_right (by decide) (by omega);show IntKind.u64.wrap (((BitVec.ofInt 64 (n:Int) &&& BitVec.ofInt 64 ((2^c-1:Nat):Int)).toNat:Nat):Int)=_;rw[BitVec.toNat_and,BitVec.toNat_ofInt,BitVec.toNat_ofInt];have b:((n:Int) % ((2^64:Nat):Int)).toNat=n:=by omega
 have d:(((2^c-1:Nat):Int) % ((2^64:Nat):Int)).toNat=2^c-1:=by omega
 rw[b,d,Nat.and_two_pow_sub_one_eq_mod];exact I5 _ (Nat.lt_of_le_of_lt (Nat.mod_le _ _) h)
theorem O4{Z S α:Type}(g:S->α->S)(k:S->Option Z):∀(l:List α) (i:Nat) (s:S),forL l i (fun _ c s nx _=>nx (g s c)) s k=k (l.foldl g s)
 |[],_,_=>rfl
 |x::l,i,s=>by unfold forL;exact O4 g k l (i+1) (g s x)
theorem TF{α:Type}(n i:Nat)(f:Nat->α)(v:α):((List.range n).map f).set i v=(List.range n).map (fun j=>if j=i then v else f j):=by
 apply ext_getElem
 .simp
 .intro j a b;simp only[getElem_set,getElem_map,getElem_range];by_cases h:i=j
  .subst h;simp
  .rw[if_neg h,if_neg (Ne.symm h)]
theorem sT{α:Type}(l:List α)(f:α->UInt8):Go.Vc.strOf (l.map fun x=>((f x).toNat:Int))=l.map f:=by unfold Go.Vc.strOf;simp
def HXs:ev:=[48,49,50,51,52,53,54,55,56,57,97,98,99,100,101,102]
def D36:ev:=[48,49,50,51,52,53,54,55,56,57,97,98,99,100,101,102,103,104,105,106,107,108,109,110,111,112,113,114,115,116,117,118,119,120,121,122]
def dg(n:Nat):UInt8:=HXs.getD n 0
def hx:Nat->Nat->ev
 |0,_=>[]
 |k+1,n=>hx k (n / 16)++[dg (n % 16)]
def kj(h:Int)(c:UInt8):Int:=IntKind.u64.wrap ((fl .xor .u64 h (IntKind.u64.wrap (c.toNat:Int)))*1099511628211)
def Cd(s:ev):Int:=s.foldl kj 14695981039346656037
def gH(s:ev):ev:=hx 16 (Cd s).toNat
theorem kg(s:ev):∃n:Nat,Cd s=n/\n<18446744073709551616:=by
 have:∀(s:ev) (h:Int),(∃n:Nat,h=n/\n<18446744073709551616)->∃n:Nat,s.foldl kj h=n/\n<18446744073709551616:=by
  intro s;induction s with
  |nil=>exact fun h a=>a
  |cons c s b=>exact fun h _=>b _ (mN _)
 exact this s _ ⟨14695981039346656037,rfl,by decide⟩
theorem Fm:∀m:Fin 16,D36.getD m.val 0=dg m.val:=by decide
theorem Fa{Z:Type}(m:Nat)(h:m<16)(k:Int->Option Z):fI HXs (m:Int) k=k ((dg m).toNat:Int):=by rw[sE (by simpa [HXs]using h)];simp only[dg,getD_eq_getElem?_getD,getElem?_eq_getElem (show m<HXs.length by simpa [HXs]using h),Option.getD_some]
theorem rM{Z:Type}(m:Nat)(h:m<16)(k:Int->Option Z):fI D36 (m:Int) k=k ((dg m).toNat:Int):=by
 have a:m<D36.length:=by simp[D36];omega
 rw[sE a,<-Fm ⟨m,h⟩];simp only[getD_eq_getElem?_getD,getElem?_eq_getElem a,Option.getD_some]
theorem QX(n:Nat):(List.range 16).map (fun j=>dg (n / 2^(60-4*j) % 16))=hx 16 n:=by simp only[hx,List.range,List.range.loop,map_cons,map_nil,Nat.div_div_eq_div_mul,nil_append,cons_append];simp
theorem SC(s:ev):Gj s=some (gH s):=by
 obtain⟨n,g,e⟩:=kg s;unfold Gj;obtain⟨N,k⟩:∃N,ff=N:=⟨_,rfl⟩;have r:1099511627776<=N:=k ▸ qM;rw[k];show forL s 0 (fun _ c h nx _=>nx (kj h c)) 14695981039346656037 _=_;rw[O4];show jp _ (fun l=>loopN N _ _ _)=_;rw[show s.foldl kj 14695981039346656037=(n:Int)from g];unfold jp;let a:=fun i:Nat=>(List.range 16).map fun j=>if j<i then((dg (n / 2^(60-4*j) % 16)).toNat:Int)else 0
 refine(pq (fun s=>∃i:Nat,s.1=(i:Int)/\i<=16/\s.2=a i) (fun s=>16-s.1.toNat) (fun _=>some (gH s)) ?_ N _ ⟨0,rfl,by omega,?_⟩ (by show 16-Int.toNat 0<N;simp;omega)).trans rfl
 .rintro⟨t,o⟩ nx ⟨i,m,hi,p⟩ f;obtain rfl:t=i:=m;obtain rfl:o=a i:=p;simp only[length_replicate];by_cases h:i<16
  .rw[oM (decide_eq_true (by omega))];have q:IntKind.i64.wrap (60-IntKind.i64.wrap (4*(i:Int)))=((60-4*i:Nat):Int):=by rw[gj (n:=4*(i:Int)) (by omega) (by omega),gj (by omega) (by omega)];omega
   rw[q,zg (by omega),vt _ _ _ (by simp only[IntKind.bits];omega)];rw[show(15:Int)=((15:Nat):Int)from rfl,oU _ 4 15 (Nat.lt_of_le_of_lt (Nat.div_le_self _ _) e) (by decide) (by decide)];show fI HXs _ _=_;rw[Fa _ (Nat.mod_lt _ (by decide)),zg (by simp[a];omega),fw i (by omega)];refine f _ ⟨i+1,rfl,by omega,?_⟩ ?_
   .show List.set (a i) (Int.toNat (i:Int)) _=_;rw[Int.toNat_natCast];show((List.range 16).map _).set i _=(List.range 16).map _;rw[TF];apply map_congr_left;intro j _;by_cases d:j=i
    .subst d;rw[if_pos rfl,if_pos (by omega)]
    .rw[if_neg d];by_cases b:j<i
     .rw[if_pos b,if_pos (by omega)]
     .rw[if_neg b,if_neg (by omega)]
   .show 16-Int.toNat ((i+1:Nat):Int)<16-Int.toNat (i:Int);rw[Int.toNat_natCast,Int.toNat_natCast];omega
  .rw[sB (decide_eq_false (by omega))];obtain rfl:i=16:=by omega
   show some (Go.Vc.strOf (a 16))=_;have:a 16=(List.range 16).map fun j=>((dg (n / 2^(60-4*j) % 16)).toNat:Int):=by apply map_congr_left;intro j d;rw[if_pos (mem_range.1 d)]
   rw[this,sT,QX];unfold gH;rw[g];rfl
 .show List.replicate 16 (0:Int)=_;apply ext_getElem
  .simp[a]
  .intro j m p;rw[getElem_replicate];simp only[a,getElem_map,getElem_range];rfl
def fm:Nat->Nat->ev
 |0,n=>[dg n]
 |k+1,n=>if n<16 then [dg n]else fm k (n / 16)++[dg (n % 16)]
theorem rN:∀k:Nat,hx k 0=List.replicate k 48
 |0=>rfl
 |k+1=>by
  show hx k (0 / 16)++[dg (0 % 16)]=_;rw[Nat.zero_div,rN k,replicate_succ'];rfl
theorem qu:∀k n:Nat,1<=(fm k n).length/\(fm k n).length<=k+1
 |0,n=>by simp[fm]
 |k+1,n=>by
  have:=qu k (n / 16);simp only[fm];split <;> simp <;> omega
theorem wL:∀k n:Nat,n<16^(k+1)->List.replicate (k+1-(fm k n).length) 48++fm k n=hx (k+1) n
 |0,n,h=>by
  have:n % 16=n:=Nat.mod_eq_of_lt (by simpa using h);simp[fm,hx,this]
 |k+1,n,h=>by
  have e:=qu k (n / 16);simp only[fm];split
  .rename_i a;have b:n / 16=0:=Nat.div_eq_of_lt a;have c:n % 16=n:=Nat.mod_eq_of_lt a;show _=hx (k+1) (n / 16)++[dg (n % 16)];rw[b,c,rN];rfl
  .have d:=wL k (n / 16) (by rw[Nat.pow_succ]at h;omega);show _=hx (k+1) (n / 16)++[dg (n % 16)];rw[<-d,length_append,append_assoc];congr 2;simp
theorem Qf:NT (IntKind.u64.wrap 16)=some 4:=by decide +kernel
theorem Kg:N6 16=some true:=by decide +kernel
theorem na(l:List Int)(i:Nat)(v:Int)(h:i<l.length):(l.set i v).drop i=v::l.drop (i+1):=by rw[drop_set];simp only[Nat.lt_irrefl,if_false,Nat.sub_self];rw[drop_eq_getElem_cons h];rfl
theorem R4(v:UInt8)(l:List Int):Go.Vc.strOf ((v.toNat:Int)::l)=v::Go.Vc.strOf l:=by simp[Go.Vc.strOf]
theorem lU(n:Nat)(h:n<18446744073709551616):I0 [] (n:Int) 16 false false=some ([],fm 15 n):=by
 unfold I0;obtain⟨N,l⟩:∃N,ff=N:=⟨_,rfl⟩;have z:1099511627776<=N:=l ▸ qM;rw[l];simp only[Kg,Qf,zf,jp,cond_true,cond_false,show decide ((16:Int)<2)=false from rfl,show decide ((16:Int)=10)=false from rfl,show decide ((36:Int)<16)=false from rfl,Bool.or_self];have r:IntKind.u64.wrap 16=16:=by decide
 have c:IntKind.u64.wrap 4=((4:Nat):Int):=by decide
 have a:IntKind.u64.wrap (16-1)=((15:Nat):Int):=by decide
 rw[r,c,a];refine(pq (fun s=>∃m j:Nat,s.1=(m:Int)/\s.2.1=(j:Int)/\j<=65/\50<=j/\m<16^(j-49)/\s.2.2.length=65/\fm 15 n=fm (j-50) m++Go.Vc.strOf (s.2.2.drop j)) (fun s=>s.2.1.toNat) (fun _=>some ([],fm 15 n)) ?_ N _ ⟨n,65,rfl,rfl,by omega,by omega,by omega,by simp,by simp[Go.Vc.strOf]⟩ (by show Int.toNat 65<N;simp;omega));rintro⟨u,i,o⟩ nx ⟨m,j,t,v,A,w,d,p,f⟩ g;obtain rfl:u=m:=t;obtain rfl:i=j:=v;simp only;simp only at p f;have b:m<18446744073709551616:=Nat.lt_of_lt_of_le d (Nat.le_trans (Nat.pow_le_pow_right (by decide) (show j-49<=16 by omega)) (by decide));have x:IntKind.i64.wrap ((j:Int)-1)=((j-1:Nat):Int):=yp j (by omega) (by omega);rw[x];by_cases B:16<=m
 .rw[oM (decide_eq_true (by omega)),oU m 4 15 b (by decide) (by decide)];show fI D36 _ _=_;rw[rM _ (Nat.mod_lt _ (by decide)),zg (by omega),zg (by omega),vt m 4 .u64 (by decide)]
  have y:50<j:=by
   rcases Nat.lt_or_ge 50 j with q|q
   .exact q
   .exfalso;obtain rfl:j=50:=by omega
    simp at d;omega
  refine g _ ⟨m / 16,j-1,rfl,rfl,by omega,by omega,?_,by simpa using p,?_⟩ (by show Int.toNat _<Int.toNat _;rw[Int.toNat_natCast,Int.toNat_natCast];omega)
  .have:16^(j-49)=16^(j-1-49)*16:=by rw[<-Nat.pow_succ];congr 1;omega
   rw[this]at d;omega
  .rw[f,Int.toNat_natCast];rw[show j-50=(j-1-50)+1 by omega];simp only[fm];rw[if_neg (by omega),na _ _ _ (by omega),R4,show j-1+1=j by omega,append_assoc];rfl
 .rw[sB (decide_eq_false (by omega))];show fI D36 _ _=_;rw[rM m (by omega),zg (by omega)];rw[zg (by simp only[length_set];omega)];rw[Int.toNat_natCast,na _ _ _ (by omega),show j-1+1=j by omega,take_of_length_le (by simp;omega),R4,f]
  have:fm (j-50) m=[dg m]:=by
   cases e:j-50 with
   |zero=>rfl
   |succ k=>simp only[fm];rw[if_pos (by omega)]
  rw[this];rfl
theorem mw(n:Nat)(h:n<18446744073709551616):IP (n:Int) 16=some (fm 15 n):=by
 unfold IP N5;rw[lU n h];rfl
theorem Aa:∀c:Fin 17,IB [48] (c.val:Int)=some (List.replicate c.val 48):=by
 intro c;obtain⟨c,d⟩:=c;simp only;unfold IB;obtain⟨N,e⟩:∃N,ff=N:=⟨_,rfl⟩;rw[e];clear e;by_cases i:c=0
 .subst i;rfl
 by_cases j:c=1
 .subst j;rfl
 rw[sB (decide_eq_false (by omega)),sB (decide_eq_false (by omega))];have l:∀c:Fin 17,ND (IntKind.u64.wrap (([48]:ev).length:Int)) (IntKind.u64.wrap (c.val:Int))=some (0,(c.val:Int)):=by decide +kernel
 simp only[eJ];rw[sB (decide_eq_false (by omega)),l ⟨c,d⟩];simp only[zf];rw[show decide ((0:Int)<0)=false from rfl,sB (by simp;omega)];rw[sB (by simp)];show fI [48] ((0:Nat):Int) _=_;rw[sE (by simp)];simp only[getElem_cons_zero];rw[show decide (((48:UInt8).toNat:Int)=32)=false from rfl,show decide (((48:UInt8).toNat:Int)=45)=false from rfl,show decide (((48:UInt8).toNat:Int)=48)=true from rfl,cond_false,cond_false,cond_true,cond_true];have f:∀(g:Bool) (a b:ev) (k:Bool->Option ev),ul a b=some false->callG g (ul a b) false k=k false:=by
  intro g a b k h;rw[h,gU];cases g <;> rfl
 have m:IntKind.i64.wrap (c:Int)=c:=mO c (by omega);rw[f _ _ _ _ (by decide +kernel),Bool.and_false,cond_false,f _ _ _ _ (by decide +kernel),Bool.and_false,cond_false,m];rw[show ul _ [48]=some true from by decide +kernel,gU,decide_eq_true (by omega:(c:Int)<=64)];simp only[Bool.and_true,cond_true];have n:∀c:Fin 17,List.take (Int.toNat (c.val:Int)) ([48,48,48,48,48,48,48,48,48,48,48,48,48,48,48,48,48,48,48,48,48,48,48,48,48,48,48,48,48,48,48,48,48,48,48,48,48,48,48,48,48,48,48,48,48,48,48,48,48,48,48,48,48,48,48,48,48,48,48,48,48,48,48,48]:ev)=List.replicate c.val 48:=by decide
 rw[zg (by simp;omega),n ⟨c,d⟩]
theorem CO(s:ev):CB s=some (gH s):=by
 obtain⟨n,b,a⟩:=kg s;unfold CB;show jp _ (fun k=>forL s 0 (fun _ c h nx _=>nx (kj h c)) 14695981039346656037 _)=_;simp only[eJ];rw[O4];rw[show s.foldl kj 14695981039346656037=(n:Int)from b,mw n a];have d:=qu 15 n;simp only[zf];rw[show IntKind.i64.wrap (16-((fm 15 n).length:Int))=((16-(fm 15 n).length:Nat):Int)by rw[gj (by omega) (by omega)];omega];have:=Aa ⟨16-(fm 15 n).length,by omega⟩;simp only at this;rw[this,zf,zg (by simp;omega),wL 15 n (by omega)];unfold gH;rw[b];rfl
theorem m0:∀a b:ev,sy a b=decide (a<b)
 |[],[]=>by simp[sy,Op.bytesLess]
 |_::_,[]=>by simp[sy,Op.bytesLess]
 |[],_::_=>by simp[sy,Op.bytesLess]
 |a::x,b::y=>by have c:=m0 x y;unfold sy at *;rw[Op.bytesLess,c,Bool.eq_iff_iff];simp[cons_lt_cons_iff]
theorem Gg{a b c:ev}(d:a<b)(e:b<c):a<c:=List.lt_trans d e
theorem FS(a:ev):¬ a<a:=List.lt_irrefl a
theorem FT(a b:ev):a<b∨a=b∨b<a:=by
 by_cases c:a<b
 .exact .inl c
 .by_cases d:b<a
  .exact .inr (.inr d)
  .exact .inr (.inl (List.le_antisymm (List.not_lt.1 d) (List.not_lt.1 c)))
theorem M1{a b:ev}(c:a<b):¬ b<a:=fun d=>FS a (Gg c d)
theorem Cz{a b:ev}(c:a<b):a≠b:=fun e=>FS b (e ▸ c)
theorem kz:∀a b:ev,(fb a b<0↔a<b)/\(fb a b=0↔a=b)
 |[],[]=>by simp[fb,Lib.compareBytes]
 |_::_,[]=>by simp[fb,Lib.compareBytes]
 |[],_::_=>by simp[fb,Lib.compareBytes]
 |a::x,b::y=>by
  have d:=kz x y;unfold fb at *;rw[Lib.compareBytes,cons_lt_cons_iff];by_cases h:a<b
  .have:a≠b:=fun e=>by subst e;exact UInt8.lt_irrefl _ h
   simp[h,this]
  .by_cases c:b<a
   .have:a≠b:=fun e=>by subst e;exact UInt8.lt_irrefl _ c
    simp[h,c,this]
   .have:a=b:=UInt8.le_antisymm (UInt8.not_lt.1 c) (UInt8.not_lt.1 h);subst this;simpa [h]using d
theorem Bc(a b:ev):decide (fb a b<0)=decide (a<b):=decide_eq_decide.2 (kz a b).1
theorem y4(a b:ev)(c:b≠[]):a<a++b:=by
 induction a with
 |nil=>cases b with
  |nil=>exact absurd rfl c
  |cons x b=>simp
 |cons x a d=>rw[cons_append,cons_lt_cons_iff];exact .inr ⟨rfl,d⟩
section
variable {K V:Type} [DecidableEq K]
theorem xD{m:List (K×V)}{p:K×V}{k:K}(h:¬ p.1=k):eG (p::m) k=eG m k:=by rw[eG,decide_eq_false h];rfl
theorem xE{m:List (K×V)}{p:K×V}{k:K}(h:p.1=k):eG (p::m) k=some p.2:=by rw[eG,decide_eq_true h];rfl
theorem Bk{m:List (K×V)}{p:K×V}{k:K}{v:V}(h:¬ p.1=k):eM (p::m) k v=p::eM m k v:=by rw[eM,decide_eq_false h];rfl
theorem Bl{m:List (K×V)}{p:K×V}{k:K}{v:V}(h:p.1=k):eM (p::m) k v=(k,v)::m:=by rw[eM,decide_eq_true h];rfl
theorem yG:∀(m:List (K×V)) (k:K) (v:V) (k':K),eG (eM m k v) k'=if k=k' then some v else eG m k'
 |[],k,v,k'=>by
  simp only[eM,eG];by_cases h:k=k' <;> simp[h]
 |p::m,k,v,k'=>by
  unfold eM;by_cases h:p.1=k
  .rw[decide_eq_true h,cond_true];simp only[eG];by_cases a:k=k'
   .simp[a]
   .have:¬ p.1=k':=fun e=>a (h ▸ e);simp[a,this]
  .rw[decide_eq_false h,cond_false];simp only[eG];rw[yG m k v k'];by_cases a:k=k'
   .have:¬ p.1=k':=fun e=>h (e.trans a.symm);simp[a,this]
   .simp only[if_neg a]
theorem alook_none:∀{m:List (K×V)} {k:K},eG m k=none↔k∉m.map (·.1)
 |[],k=>by simp[eG]
 |p::m,k=>by
  simp only[eG,map_cons,mem_cons];by_cases h:p.1=k
  .simp[h]
  .rw[decide_eq_false h,cond_false,alook_none];simp[Ne.symm h]
theorem mem_keys{m:List (K×V)}{k:K}:k∈m.map (·.1)↔(eG m k).isSome=true:=by
 have:=@alook_none K V _ m k;cases h:eG m k with
 |none=>simpa using this.1 h
 |some v =>
  simp only[Option.isSome_some,iff_true];refine Classical.byContradiction fun a=>?_;rw[this.2 a]at h;cases h
theorem kF:∀{m:List (K×V)} {k:K} {v:V},eG m k=some v->(k,v)∈m
 |[],k,v,h=>by cases h
 |p::m,k,v,h=>by
  simp only[eG]at h;by_cases e:p.1=k
  .rw[decide_eq_true e,cond_true]at h;cases h;subst e;exact mem_cons_self ..
  .rw[decide_eq_false e,cond_false]at h;exact mem_cons_of_mem _ (kF h)
theorem j6:∀{m:List (K×V)},(m.map (·.1)).Nodup->∀{p:K×V},p∈m->eG m p.1=some p.2
 |q::m,c,p,b=>by
  have a:=nodup_cons.1 c;simp only[eG];rcases mem_cons.1 b with rfl|b
  .simp
  .have:¬ q.1=p.1:=fun e=>a.1 (by show q.1∈_;rw[e];exact mem_map_of_mem b);rw[decide_eq_false this,cond_false];exact j6 a.2 b
theorem O6:∀(m:List (K×V)) (k:K) (v:V),(eM m k v).map (·.1)=m.map (·.1)++if (eG m k).isSome then []else [k]
 |[],k,v=>by simp[eM,eG]
 |p::m,k,v=>by
  by_cases h:p.1=k
  .rw[Bl h,xE h];simp[h]
  .rw[Bk h,xD h,map_cons,O6 m k v];rfl
theorem Nj{m:List (K×V)}(h:(m.map (·.1)).Nodup)(k:K)(v:V):((eM m k v).map (·.1)).Nodup:=by
 rw[O6];split
 .simpa using h
 .rename_i d;have:k∉m.map (·.1):=fun f=>d (mem_keys.1 f);rw[nodup_append];exact⟨h,by simp,fun a g b c e=>by simp at c;subst c;subst e;exact this g⟩
theorem F5(m:List (K×V))(k:K)(v:V):(eM m k v).length=m.length+if (eG m k).isSome then 0 else 1:=by
 have:=congrArg List.length (O6 m k v);simp only[length_map,length_append]at this;rw[this];split <;> simp
theorem kJ:∀(m:List (K×V)) (k:K),((jo m k).map (·.1)).Sublist (m.map (·.1))
 |[],k=>by simp[jo]
 |p::m,k=>by
  simp only[jo];by_cases h:p.1=k
  .simp[h]
  .rw[decide_eq_false h,cond_false];exact(kJ m k).cons_cons _
theorem Ni{m:List (K×V)}(h:(m.map (·.1)).Nodup)(k:K):((jo m k).map (·.1)).Nodup:=h.sublist (kJ m k)
theorem HT:∀{m:List (K×V)},(m.map (·.1)).Nodup->∀(k k':K),eG (jo m k) k'=if k=k' then none else eG m k'
 |[],_,k,k'=>by simp[jo,eG]
 |p::m,c,k,k'=>by
  have b:=nodup_cons.1 c;simp only[jo];by_cases h:p.1=k
  .rw[decide_eq_true h,cond_true];by_cases a:k=k'
   .rw[if_pos a,alook_none.2];rw[<-a,<-h];exact b.1
   .rw[if_neg a];have:¬ p.1=k':=fun e=>a (h ▸ e);simp only[eG];rw[decide_eq_false this,cond_false]
  .rw[decide_eq_false h,cond_false];simp only[eG];rw[HT b.2];by_cases a:k=k'
   .have:¬ p.1=k':=fun e=>h (e.trans a.symm);simp[a,this]
   .simp only[if_neg a]
end
section
variable {α S β:Type}
theorem MG{f:α->S->(S->Option β)->(S->Option β)->Option β}{k:S->Option β}{z:β}(a:List α->S->Prop)
  (d:∀s,a [] s->k s=some z) (e:∀r s nx x j,a r s->r[j]?=some x->(∀b,a (r.eraseIdx j) b->nx b=some z)->f x s nx k=some z) :
  ∀(n:Nat) (r:List α) (s:S),r.length=n->a r s->forM f n r s k=some z
 |0,[],s,_,h=>d s h
 |n+1,r,s,i,h=>by
  unfold Go.Vc.forM;refine Np ⟨0,by omega⟩ fun j c=>?_;rw[getElem?_eq_getElem c];exact e r s _ r[j] j h (getElem?_eq_getElem c) fun b g=>MG a d e n (r.eraseIdx j) b (by rw[length_eraseIdx,if_pos c];omega) g
theorem NE:∀{r:List α} {j:Nat} {x:α},r[j]?=some x->r.Perm (x::r.eraseIdx j)
 |[],_,_,h=>by cases h
 |y::r,0,x,h=>by
  simp at h;subst h;simp
 |y::r,j+1,x,h=>by simp only[getElem?_cons_succ]at h;rw[eraseIdx_cons_succ];exact((NE h).cons y).trans (.swap x y _)
end
theorem Pk(a b c:ev)(d:decide (a<=b)=true)(e:decide (b<=c)=true):decide (a<=c)=true:=by simp only[decide_eq_true_eq]at *;exact List.le_trans d e
theorem Pj(a b:ev):(decide (a<=b)||decide (b<=a))=true:=by simp only[Bool.or_eq_true,decide_eq_true_eq];exact List.le_total a b
theorem Pp(l:List ev):(sortS l).Perm l:=mergeSort_perm l _
theorem TG{l l':List ev}(h:l.Perm l'):sortS l=sortS l':=by unfold sortS;refine List.Perm.eq_of_pairwise (le:=fun a b=>decide (a<=b)=true) (fun a b _ _ c d=>?_) (pairwise_mergeSort Pk Pj l) (pairwise_mergeSort Pk Pj l') (((mergeSort_perm l _).trans h).trans (mergeSort_perm l' _).symm);simp only[decide_eq_true_eq]at c d;exact List.le_antisymm c d
theorem vn{l:List ev}(h:l.Nodup):(sortS l).Pairwise (·<·):=by
 have d:(sortS l).Pairwise fun a b=>decide (a<=b)=true:=pairwise_mergeSort Pk Pj l;have e:(sortS l).Pairwise (·≠·):=(Pp l).symm.nodup h;refine List.Pairwise.imp₂ (fun a b c f=>?_) d e;simp only[decide_eq_true_eq]at c;rcases FT a b with h|h|h
 .exact h
 .exact absurd h f
 .exact absurd c (List.not_le.2 h)
section
variable {V A:Type}
def pi(m:List (ev×V)):List ev:=sortS (m.map (·.1))
theorem mem_keysM{m:List (ev×V)}{k:ev}:k∈pi m↔(eG m k).isSome=true:=by unfold pi;rw[(Pp _).mem_iff,mem_keys]
theorem j9(m:List (ev×V)):(pi m).length=m.length:=by unfold pi;rw[(Pp _).length_eq,length_map]
theorem Ow(m:List (ev×V))(h:m.length<=274877906944) :
  forM (fun(e:ev×V) (o:List ev) nx _=>eA ((o++[e.1]).length<=274877906944) (nx (o++[e.1]))) m.length m [] (fun o=>some (sortS o))=some (pi m):=by
 refine MG (fun r o=>(o++r.map (·.1)).Perm (m.map (·.1))) (fun o a=>?_) (fun r o nx x j a hx b=>?_) _ _ _ rfl (by simp)
 .simp only[map_nil,append_nil]at a;unfold pi;rw[TG a]
 .have d:=(NE hx).map (·.1);have c:((o++[x.1])++(r.eraseIdx j).map (·.1)).Perm (m.map (·.1)):=by refine List.Perm.trans ?_ a;rw[append_assoc];exact(List.Perm.append_left o d).symm
  have f:=c.length_eq;simp only[length_append,length_map]at f;rw[zg (by simp only[length_append];omega)];exact b _ c
def fG(c:A->ev)(l:List A):Prop:=l.Pairwise fun a b=>c a<c b
def lk(a:A->ev)(l:List A)(k:ev):Option A:=l.find? fun x=>decide (a x=k)
variable {key:A->ev}
theorem qN{l:List A}{k:ev}{x:A}(h:lk key l k=some x):x∈l/\key x=k:=by unfold lk at h;exact⟨mem_of_find?_eq_some h,by simpa using find?_some h⟩
theorem y1{l:List A}(f:fG key l){x y:A}(hx:x∈l)(g:y∈l)(h:key x=key y):x=y:=by
 induction l with
 |nil=>cases hx
 |cons z l i =>
  have a:=pairwise_cons.1 f;rcases mem_cons.1 hx with e|b <;> rcases mem_cons.1 g with d|c
  .rw[e,d]
  .subst e;exact absurd h (Cz (a.1 y c))
  .subst d;exact absurd h.symm (Cz (a.1 x b))
  .exact i a.2 b c
theorem lC{l:List A}(a:fG key l){x:A}(hx:x∈l):lk key l (key x)=some x:=by
 cases h:lk key l (key x)with
 |none =>
  unfold lk at h;have:=find?_eq_none.1 h x hx;simp at this
 |some y =>
  obtain⟨b,c⟩:=qN h;rw[y1 a b hx c]
theorem lk_none{l:List A}{k:ev}:lk key l k=none↔∀x∈l,key x≠k:=by unfold lk;simp
theorem jN{l:List A}(c:fG key l):l.Nodup:=List.Pairwise.imp (R:=fun a b=>key a<key b) (S:=fun a b=>a≠b) (fun h e=>by subst e;exact FS _ h) c
theorem MC{l l':List A}(h:fG key l)(c:fG key l')(d:∀k,lk key l k=lk key l' k):l=l':=by
 have e:∀x,x∈l↔x∈l':=fun x=>⟨fun hx=>(qN ((d _).symm.trans (lC h hx))).1,fun hx=>(qN ((d _).trans (lC c hx))).1⟩;exact List.Perm.eq_of_pairwise (fun a b _ _ f g=>absurd g (M1 f)) h c ((perm_ext_iff_of_nodup (jN h) (jN c)).2 e)
def mS(g:ev->V->A)(d:V)(m:List (ev×V)):List A:=(pi m).map fun k=>g k ((eG m k).getD d)
theorem kY(g:ev->V->A)(d:V)(m:List (ev×V)):(mS g d m).length=m.length:=by unfold mS;rw[length_map,j9]
theorem CE{g:ev->V->A}{d:V}{m:List (ev×V)}(l:(m.map (·.1)).Nodup)(f:∀k v,eG m k=some v->key (g k v)=k):fG key (mS g d m):=by
 unfold fG mS;rw[pairwise_map];refine(vn l).imp_of_mem fun {a b} n o h=>?_;have c:=mem_keysM.1 (show a∈pi m from n);have e:=mem_keysM.1 (show b∈pi m from o);obtain⟨v,i⟩:=Option.isSome_iff_exists.1 c;obtain⟨w,j⟩:=Option.isSome_iff_exists.1 e;rw[i,j,Option.getD_some,Option.getD_some,f _ _ i,f _ _ j];exact h
theorem Bv{g:ev->V->A}{d:V}{m:List (ev×V)}(l:∀k v,eG m k=some v->key (g k v)=k)(k:ev):lk key (mS g d m) k=(eG m k).map (g k):=by
 have e:∀k'∈pi m,∃v,eG m k'=some v/\key (g k' ((eG m k').getD d))=k':=fun k' h=>by obtain⟨v,a⟩:=Option.isSome_iff_exists.1 (mem_keysM.1 h);exact⟨v,a,by rw[a,Option.getD_some,l _ _ a]⟩
 cases h:eG m k with
 |none =>
  rw[Option.map_none,lk_none];intro x hx;obtain⟨k',b,rfl⟩:=mem_map.1 hx;obtain⟨v,a,c⟩:=e k' b;rw[c];rintro rfl;rw[h]at a;cases a
 |some v =>
  have f:k∈pi m:=mem_keysM.2 (by rw[h];rfl);cases i:lk key (mS g d m) k with
  |none =>
   have:=lk_none.1 i _ (mem_map_of_mem f);obtain⟨n,a,c⟩:=e k f;exact absurd c this
  |some x =>
   obtain⟨o,j⟩:=qN i;obtain⟨k',b,rfl⟩:=mem_map.1 o;obtain⟨n,a,c⟩:=e k' b;rw[c]at j;subst j;rw[h];rfl
def ins(key:A->ev)(x:A)(l:List A):List A:=l.filter (fun y=>decide (key y<key x))++x::l.filter fun y=>decide (key x<key y)
def l6(key:A->ev)(k:ev)(l:List A):List A:=l.filter fun y=>!decide (key y=k)
theorem mem_ins{l:List A}{x y:A}:y∈ins key x l↔y=x∨(y∈l/\key y≠key x):=by
 unfold ins;simp only[mem_append,mem_filter,decide_eq_true_eq,mem_cons];constructor
 .rintro(⟨a,b⟩|rfl|⟨a,b⟩)
  .exact .inr ⟨a,Cz b⟩
  .exact .inl rfl
  .exact .inr ⟨a,Ne.symm (Cz b)⟩
 .rintro(rfl|⟨a,b⟩)
  .exact .inr (.inl rfl)
  .rcases FT (key y) (key x)with h|h|h
   .exact .inl ⟨a,h⟩
   .exact absurd h b
   .exact .inr (.inr ⟨a,h⟩)
theorem mem_del{l:List A}{k:ev}{y:A}:y∈l6 key k l↔y∈l/\key y≠k:=by unfold l6;simp
theorem Bz{l:List A}(d:fG key l)(x:A):fG key (ins key x l):=by
 unfold fG ins;rw[pairwise_append,pairwise_cons];refine⟨d.filter _,⟨fun y f=>by simpa using (mem_filter.1 f).2,d.filter _⟩,fun a g b c=>?_⟩;have e:key a<key x:=by simpa using (mem_filter.1 g).2
 rcases mem_cons.1 c with rfl|c
 .exact e
 .exact Gg e (by simpa using (mem_filter.1 c).2)
theorem CD{l:List A}(a:fG key l)(k:ev):fG key (l6 key k l):=a.filter _
theorem wj{l:List A}{k:ev}{o:Option A}(e:fG key l)(h:∀x,o=some x↔x∈l/\key x=k):lk key l k=o:=by
 cases a:lk key l k with
 |none =>
  cases b:o with
  |none=>rfl
  |some x =>
   obtain⟨c,d⟩:=(h x).1 b;exact absurd d (lk_none.1 a x c)
 |some x=>exact((h x).2 (qN a)).symm
theorem wi{l:List A}(a:fG key l){k:ev}{x:A}:lk key l k=some x↔x∈l/\key x=k:=⟨qN,fun h=>by obtain⟨b,rfl⟩:=h;exact lC a b⟩
theorem qh{l:List A}(c:fG key l)(x:A)(k:ev):lk key (ins key x l) k=if key x=k then some x else lk key l k:=by
 refine wj (Bz c x) fun y=>?_;rw[mem_ins];split
 .rename_i h;subst h;constructor
  .intro h;cases h;exact⟨.inl rfl,rfl⟩
  .rintro⟨rfl|⟨a,d⟩,b⟩
   .rfl
   .exact absurd b d
 .rename_i h;rw[wi c];constructor
  .rintro⟨a,rfl⟩;exact⟨.inr ⟨a,fun e=>h e.symm⟩,rfl⟩
  .rintro⟨rfl|⟨a,d⟩,b⟩
   .exact absurd b h
   .exact⟨a,b⟩
theorem qi{l:List A}(c:fG key l)(k k':ev):lk key (l6 key k l) k'=if k=k' then none else lk key l k':=by
 refine wj (CD c k) fun y=>?_;rw[mem_del];split
 .rename_i h;subst h;simp only[reduceCtorEq,false_iff];rintro⟨⟨_,a⟩,b⟩;exact a b
 .rename_i h;rw[wi c];constructor
  .rintro⟨a,rfl⟩;exact⟨⟨a,fun e=>h e.symm⟩,rfl⟩
  .rintro⟨⟨a,_⟩,b⟩;exact⟨a,b⟩
theorem Hg{l:List A}(c:fG key l)(k:ev):l.length=(l6 key k l).length+if (lk key l k).isSome then 1 else 0:=by
 induction l with
 |nil=>simp[l6,lk]
 |cons x l b =>
  have a:=pairwise_cons.1 c;have b:=b a.2;unfold l6 lk at *;by_cases h:key x=k
  .have d:∀y∈l,key y≠k:=fun y f e=>Cz (a.1 y f) (h.trans e.symm);have g:l.find? (fun x=>decide (key x=k))=none:=by simpa using d
   rw[g]at b;simp only[filter_cons,find?_cons,h,decide_true,Bool.not_true,Bool.false_eq_true,if_false,if_true,Option.isSome_some,Option.isSome_none,length_cons]at *;omega
  .simp only[filter_cons,find?_cons,h,decide_false,Bool.not_false,if_true,length_cons]at *;omega
theorem FX{l:List A}(a:fG key l)(x:A):(ins key x l).length=l.length+if (lk key l (key x)).isSome then 0 else 1:=by
 have b:=Hg (Bz a x) (key x);rw[qh a,if_pos rfl]at b;have c:l6 key (key x) (ins key x l)=l6 key (key x) l:=by
  refine MC (CD (Bz a x) _) (CD a _) fun k=>?_;rw[qi (Bz a x),qi a,qh a];split
  .rfl
  .rfl
 rw[c]at b;have d:=Hg a (key x);simp only[Option.isSome_some,if_true]at b;split at d <;> simp_all <;> omega
theorem OC{g:ev->V->A}{d:V}{m:List (ev×V)}(c:(m.map (·.1)).Nodup)(b:∀k v,eG m k=some v->key (g k v)=k)(k:ev)(v:V)(i:key (g k v)=k) :
  mS g d (eM m k v)=ins key (g k v) (mS g d m):=by
 have a:∀k' f,eG (eM m k v) k'=some f->key (g k' f)=k':=fun k' f h=>by
  rw[yG]at h;split at h
  .rename_i e;subst e;cases h;exact i
  .exact b _ _ h
 refine MC (CE (Nj c k v) a) (Bz (CE c b) _) fun k'=>?_;rw[Bv a,qh (CE c b),Bv b,yG,i];split
 .rename_i e;subst e;rfl
 .rfl
theorem OB{g:ev->V->A}{d:V}{m:List (ev×V)}(a:(m.map (·.1)).Nodup)(c:∀k v,eG m k=some v->key (g k v)=k)(k:ev) :
  mS g d (jo m k)=l6 key k (mS g d m):=by
 have b:∀k' e,eG (jo m k) k'=some e->key (g k' e)=k':=fun k' e h=>by
  rw[HT a]at h;split at h
  .cases h
  .exact c _ _ h
 refine MC (CE (Ni a k) b) (CD (CE a c) _) fun k'=>?_;rw[Bv b,qi (CE a c),Bv c,HT a];split <;> rfl
def mB(key:A->ev)(w:A->V)(l:List A):List (ev×V):=l.map fun x=>(key x,w x)
theorem xy(m:List (ev×V))(k:ev)(v:V)(h:k∉m.map (·.1)):eM m k v=m++[(k,v)]:=by
 induction m with
 |nil=>rfl
 |cons p m b =>
  have c:¬ p.1=k:=fun e=>h (by simp[e]);rw[eM,decide_eq_false c,cond_false,b fun a=>h (by simp at a|-;exact .inr a)];rfl
theorem nC(w:A->V)(l:List A):(mB key w l).map (·.1)=l.map key:=by simp[mB,Function.comp_def]
theorem M7{w:A->V}{l:List A}(a:fG key l):((mB key w l).map (·.1)).Nodup:=by rw[nC];exact(pairwise_map.2 (a.imp fun h=>Cz h))
theorem ML{w:A->V}{l:List A}(k:ev):eG (mB key w l) k=(lk key l k).map w:=by
 unfold mB lk;induction l with
 |nil=>rfl
 |cons x l a =>
  simp only[map_cons,eG,find?_cons];by_cases h:key x=k
  .simp[h]
  .rw[decide_eq_false h,cond_false,a]
theorem qe{Z:Type}{w:A->V}{f:Nat->A->List (ev×V)->(List (ev×V)->Option Z)->(List (ev×V)->Option Z)->Option Z}{k:List (ev×V)->Option Z}
  (j:∀i x m nx k,f i x m nx k=eA ((eM m (key x) (w x)).length<=274877906944) (nx (eM m (key x) (w x)))) {l:List A} (n:fG key l) (q:l.length<=274877906944) :
  forL l 0 f [] k=k (mB key w l):=by
 have:∀(a b:List A) (i:Nat),l=a++b->forL b i f (mB key w a) k=k (mB key w l):=by
  intro a b;induction b generalizing a with
  |nil=>intro i e;rw[append_nil]at e;subst e;rfl
  |cons x b o =>
   intro i e;unfold forL;have hx:key x∉(mB key w a).map (·.1):=by rw[nC];intro h;obtain⟨y,p,c⟩:=mem_map.1 h;have d:=n;unfold fG at d;rw[e,pairwise_append]at d;exact Cz (d.2.2 y p x (mem_cons_self ..)) c
   have g:eM (mB key w a) (key x) (w x)=mB key w (a++[x]):=by rw[xy _ _ _ hx];simp[mB]
   rw[j,g,zg]
   .exact o (a++[x]) (i+1) (by rw[e];simp)
   .have:=congrArg List.length e;simp only[length_append,length_cons]at this;simp only[mB,length_map,length_append,length_cons,length_nil];omega
 exact this [] l 0 rfl
theorem kX{w:A->V}{g:ev->V->A}{d:V}{l:List A}(b:fG key l)(c:∀x∈l,g (key x) (w x)=x):mS g d (mB key w l)=l:=by
 have e:∀k v,eG (mB key w l) k=some v->key (g k v)=k:=fun k v h=>by rw[ML]at h;obtain⟨x,hx,rfl⟩:=Option.map_eq_some_iff.1 h;obtain⟨a,rfl⟩:=qN hx;rw[c x a]
 refine MC (CE (M7 b) e) b fun k=>?_;rw[Bv e,ML];cases h:lk key l k with
 |none=>rfl
 |some x =>
  obtain⟨a,rfl⟩:=qN h;simp[c x a]
theorem Pz{Z:Type}{g:ev->V->A}{d:V}{m:List (ev×V)}{f:Nat->ev->List A->(List A->Option Z)->(List A->Option Z)->Option Z}{k:List A->Option Z}
  (c:∀i x o nx k,f i x o nx k=eA ((o++[g x ((eG m x).getD d)]).length<=274877906944) (nx (o++[g x ((eG m x).getD d)]))) (l:m.length<=274877906944) :
  forL (pi m) 0 f [] k=k (mS g d m):=by
 have n:=j9 m;have:∀(a b:List ev) (i:Nat),pi m=a++b->forL b i f (a.map fun x=>g x ((eG m x).getD d)) k=k (mS g d m):=by
  intro a b;induction b generalizing a with
  |nil=>intro i e;rw[append_nil]at e;unfold mS;rw[e];rfl
  |cons x b h =>
   intro i e;have j:=congrArg List.length e;simp only[length_append,length_cons]at j;unfold forL;rw[c,zg (by simp only[length_append,length_map,length_cons,length_nil];omega)];have:=h (a++[x]) (i+1) (by rw[e];simp);rw[map_append]at this;exact this
 exact this [] _ 0 rfl
end
def gv(p d:ev):Bool:=decide (p.take (d.length+1)=d++[47])
theorem mR{p d:ev}(h:gv p d=true):∃r,p=d++47::r:=by
 have:=of_decide_eq_true h;refine⟨p.drop (d.length+1),?_⟩;conv=>lhs;rw[<-take_append_drop (d.length+1) p,this]
 simp
theorem yR(d r:ev):gv (d++47::r) d=true:=by unfold gv;rw[decide_eq_true_eq,show d.length+1=(d++[47]).length by simp,show d++47::r=(d++[47])++r by simp,take_left]
theorem kW{p d:ev}(h:gv p d=true):d<p:=by obtain⟨r,rfl⟩:=mR h;exact y4 _ _ (by simp)
theorem undB_at{p d:ev}:gv p d=true↔∃i,∃h:i<p.length,p[i]=47/\d=p.take i:=by
 constructor
 .intro h;obtain⟨r,rfl⟩:=mR h;exact⟨d.length,by simp,by simp,by simp⟩
 .rintro⟨i,h,a,rfl⟩;have:p=p.take i++47::p.drop (i+1):=by rw[<-a,<-drop_eq_getElem_cons h,take_append_drop]
  conv=>lhs;arg 1;rw[this]
  exact yR _ _
theorem MQ(p d:ev)(h:d.length<274877906944):uE p d=some (gv p d):=by
 unfold uE ul N3 gv;have a:(d++[47]).length=d.length+1:=by simp
 rw[zg (by rw[a];omega),zg (by intro h;simp only[decide_eq_true_eq]at h;omega)];simp only[zf,a];congr 1;by_cases b:d.length+1<=p.length
 .rw[decide_eq_true (by omega:((d.length+1:Nat):Int)<=(p.length:Int)),Bool.true_and]
 .rw[decide_eq_false (by omega),Bool.false_and,eq_comm,decide_eq_false_iff_not];intro e;have:=congrArg List.length e;simp only[length_take,a]at this;omega
theorem oV{α:Type}{q:Nat->α->Bool}:∀(l:List α) (i:Nat),gL q i l=true↔∀j (h:j<l.length),q (i+j) l[j]=true
 |[],i=>by simp[gL]
 |x::l,i=>by
  unfold gL;rw[Bool.and_eq_true,oV l (i+1)];constructor
  .rintro⟨b,c⟩ j a;cases j with
   |zero=>exact b
   |succ j=>have:=c j (by simpa using a);rw[show i+(j+1)=i+1+j by omega];exact this
  .intro h;refine⟨h 0 (by simp),fun j a=>?_⟩;have:=h (j+1) (by simpa using a);rw[show i+1+j=i+(j+1)by omega];exact this
theorem ss(m:Mp)(p:ev):Bo m p=true↔∀d,gv p d=true->(eG m d).getD false=false:=by
 unfold Bo;rw[oV];constructor
 .intro h d b;obtain⟨i,hi,a,rfl⟩:=undB_at.1 b;have:=h i hi;unfold iw at this;rw[Nat.zero_add,a]at this;simpa using this
 .intro h j c;unfold iw;rw[Nat.zero_add];cases e:decide ((p[j].toNat:Int)=47)with
  |false=>rfl
  |true =>
   have a:p[j]=47:=by
    have f:p[j].toNat=47:=by simp only[decide_eq_true_eq]at e;omega
    exact UInt8.toNat.inj f
   rw[h _ (undB_at.2 ⟨j,c,a,rfl⟩)];rfl
theorem Ee(i:Nat)(a b:ev):ord i a b=(decide (0<i)&&!decide (b<a)):=by
 unfold ord B3;rw[m0];congr 1
 .exact decide_eq_decide.2 (by omega)
 .rw[Bool.eq_iff_iff];simp only[Bool.or_eq_true,decide_eq_true_eq,Bool.not_eq_true',decide_eq_false_iff_not];constructor
  .rintro(h|rfl)
   .exact M1 h
   .exact FS _
  .intro h;rcases FT a b with c|c|c
   .exact .inl c
   .exact .inr c
   .exact absurd c h
section
variable {α:Type} {nm:α->ev}
def Hd(nm:α->ev)(i:Nat)(a:ev):List α->Prop
 |[]=>True
 |x::_=>0<i->a<nm x
theorem m6{x:α}{l:List α}{i:Nat}:fG nm (x::l)↔Hd nm (i+1) (nm x) l/\fG nm l:=by
 unfold fG;rw[pairwise_cons];cases l with
 |nil=>simp[Hd]
 |cons y l =>
  simp only[Hd];constructor
  .rintro⟨a,b⟩;exact⟨fun _=>a y (mem_cons_self ..),b⟩
  .rintro⟨a,b⟩;refine⟨fun z hz=>?_,b⟩;rcases mem_cons.1 hz with rfl|hz
   .exact a (by omega)
   .exact Gg (a (by omega)) ((pairwise_cons.1 b).1 z hz)
theorem ord_false{i:Nat}{x:α}{l:List α}{a:ev}:ord i (nm x) a=false↔Hd nm i a (x::l):=by
 rw[Ee];simp only[Hd,Bool.and_eq_false_iff,decide_eq_false_iff_not,Bool.not_eq_false',decide_eq_true_eq];constructor
 .rintro(h|h)
  .intro b;exact absurd b h
  .exact fun _=>h
 .intro h;by_cases hi:0<i
  .exact .inr (h hi)
  .exact .inl hi
theorem Rv{e:α->Int}:∀(l:List α) (i:Nat) (a:ev),pk e nm i a l=0↔(∀x∈l,e x=0)/\fG nm l/\Hd nm i a l
 |[],i,a=>by simp[pk,fG,Hd]
 |x::l,i,a=>by
  unfold pk;by_cases h:e x=0
  .rw[decide_eq_true h,Bool.not_true,cond_false];cases b:ord i (nm x) a with
   |true =>
    have:¬ Hd nm i a (x::l):=fun c=>by rw[ord_false.2 c]at b;cases b
    simp[this]
   |false =>
    have c:=(ord_false (l:=l)).1 b;rw[cond_false,Rv l,m6 (i:=i)];simp only[mem_cons,forall_eq_or_imp,h,true_and,c,and_true];constructor
    .rintro⟨d,f,g⟩;exact⟨d,g,f⟩
    .rintro⟨d,g,f⟩;exact⟨d,f,g⟩
  .rw[decide_eq_false h,Bool.not_false,cond_true];simp[h]
end
theorem Rq:∀(l:List ae) (i:Nat) (b:ev) (m:Mp),uw i b m l=0 ↔
  (∀x∈l,jb x=0)/\fG (·.a) l/\Hd (·.a) i b l/\(∀x∈l,∀d,gv x.a d=true->(eG m d).getD false=false)/\l.Pairwise fun y x=>gv x.a y.a=false
 |[],i,b,m=>by simp[uw,fG,Hd]
 |x::l,i,b,m=>by
  unfold uw;by_cases h:jb x=0
  .rw[decide_eq_true h,Bool.not_true,cond_false];cases k:ord i x.a b with
   |true =>
    have:¬ Hd (·.a) i b (x::l):=fun f=>by rw[(ord_false (nm:=fun x:ae=>x.a)).2 f]at k;cases k
    simp[this]
   |false =>
    have f:=(ord_false (nm:=fun x:ae=>x.a) (l:=l)).1 k;rw[cond_false];cases n:Bo m x.a with
    |false =>
     have:¬ ∀d,gv x.a d=true->(eG m d).getD false=false:=fun f=>by rw[(ss m x.a).2 f]at n;cases n
     rw[Bool.not_false,cond_true];simp[this]
    |true =>
     have o:=(ss m x.a).1 n;rw[Bool.not_true,cond_false,Rq l,m6 (i:=i),pairwise_cons];simp only[mem_cons,forall_eq_or_imp,h,true_and,f];constructor
     .rintro⟨p,q,r,j,s⟩;refine⟨p,⟨r,q⟩,⟨o,fun y c d g=>?_⟩,fun y c=>?_,s⟩
      .have:=j y c d g;rw[yG]at this;split at this
       .cases this
       .exact this
      .cases t:gv y.a x.a with
       |false=>rfl
       |true =>
        have:=j y c _ t;rw[yG,if_pos rfl]at this;cases this
     .rintro⟨p,⟨r,q⟩,⟨_,j⟩,u,s⟩;refine⟨p,q,r,fun y c d g=>?_,s⟩;rw[yG];split
      .rename_i e;subst e;rw[u y c]at g;cases g
      .exact j y c d g
  .rw[decide_eq_false h,Bool.not_false,cond_true];simp[h]
structure Good(m:ak):Prop where
 c1:m.F.length<=100
 c2:m.B.length<=2000
 c3:m.E.length<=2000
 c4:m.D.length<=100
 f1:∀x∈m.F,kw x=0
 f2:fG (·.u) m.F
 g1:∀x∈m.B,jb x=0
 g2:fG (·.a) m.B
 g3:∀x∈m.B,∀y∈m.B,gv x.a y.a=false
 s1:∀x∈m.E,lY x=0
 s2:fG (·.u) m.E
 v1:∀x∈m.D,ir x=0
 v2:fG (·.C) m.D
theorem Oa{α:Type}{b:α->ev}{l:List α}{a:ev}:Hd b 0 a l:=by
 cases l with
 |nil=>trivial
 |cons x l=>intro h;omega
theorem vV(a b:Int):fg a b=0↔a=0/\b=0:=by
 unfold fg;by_cases h:a=0
 .simp[h]
 .rw[decide_eq_false h,Bool.not_false,cond_true];simp[h]
theorem vL{l:List ae}(o:fG (·.a) l):(l.Pairwise fun y x=>gv x.a y.a=false)↔∀x∈l,∀y∈l,gv x.a y.a=false:=by
 constructor
 .intro h;induction l with
  |nil=>intro x hx;cases hx
  |cons z l q =>
   have d:=pairwise_cons.1 o;have m:=pairwise_cons.1 h;have i:∀p:ev,gv p p=false:=fun p=>by
    cases j:gv p p with
    |false=>rfl
    |true=>exact absurd (kW j) (FS _)
   have k:∀a b:ev,a<b->gv a b=false:=fun a b c=>by
    cases j:gv a b with
    |false=>rfl
    |true=>exact absurd (kW j) (M1 c)
   intro x hx y r;rcases mem_cons.1 hx with e|f <;> rcases mem_cons.1 r with n|g
   .rw[e,n];exact i _
   .subst e;exact k _ _ (d.1 y g)
   .subst n;exact m.1 x f
   .exact q d.2 m.2 x f y g
 .intro h;exact pairwise_iff_forall_sublist.2 fun {a b} c=>h b (c.subset (by simp)) a (c.subset (by simp))
theorem Ou(m:ak):Cs m=0↔Good m:=by
 unfold Cs;cases a:(((decide (100<(m.F.length:Int)))||(decide (2000<(m.B.length:Int))))||(decide (2000<(m.E.length:Int))))||(decide (100<(m.D.length:Int)))with
 |true =>
  simp only[cond_true];simp only[Bool.or_eq_true,decide_eq_true_eq]at a;constructor
  .intro h;cases h
  .intro h;have:=h.c1;have:=h.c2;have:=h.c3;have:=h.c4;omega
 |false =>
  simp only[Bool.or_eq_false_iff,decide_eq_false_iff_not]at a;simp only[cond_false,vV,Rv,Rq];constructor
  .rintro⟨⟨c,d,_⟩,⟨e,b,_,_,f⟩,⟨g,i,_⟩,j,k,_⟩;exact⟨by omega,by omega,by omega,by omega,c,d,e,b,(vL b).1 f,g,i,j,k⟩
  .intro h;exact⟨⟨h.f1,h.f2,Oa⟩,⟨h.g1,h.g2,Oa,fun _ _ _ _=>rfl,(vL h.g2).2 h.g3⟩,⟨h.s1,h.s2,Oa⟩,h.v1,h.v2,Oa⟩
theorem Gm{p:ev}(h:fS p=true):p.length<=200:=by unfold fS at h;simp only[Bool.and_eq_true,decide_eq_true_eq]at h;omega
theorem Nd{f:ae}(h:jb f=0):fS f.a=true/\f.G.length<=65536:=by
 unfold jb at h;cases b:fS f.a <;> rw[b]at h
 .cases h
 .simp only[Bool.not_true,cond_false]at h;by_cases c:65536<(f.G.length:Int)
  .rw[decide_eq_true c]at h;cases h
  .exact⟨rfl,by omega⟩
theorem oy{s:ab}(h:lY s=0):fS s.u=true/\xZ s.Value=true:=by
 unfold lY at h;cases a:fS s.u <;> cases b:xZ s.Value <;> rw[a,b]at h <;> first|cases h;done|exact⟨rfl,rfl⟩
theorem kv{s:ah}(h:ir s=0):fY s.C=true/\fS s.a=true:=by
 unfold ir at h;cases b:fY s.C <;> cases c:fS s.a <;> rw[b,c]at h <;> first|cases h;done|exact⟨rfl,rfl⟩
theorem mQ{p:ev}(h:xZ p=true):p.length<=1000:=by unfold xZ at h;simp only[Bool.and_eq_true,decide_eq_true_eq]at h;omega
theorem Good.fit{m:ak}(h:Good m):GW m:=by
 have:=h.c1;have:=h.c2;have:=h.c3;have:=h.c4;refine⟨by omega,by omega,by omega,by omega,fun x hx=>?_,fun x hx=>?_,fun x hx=>?_⟩
 .have:=Gm (Nd (h.g1 x hx)).1;unfold Sm;omega
 .have:=Gm (oy (h.s1 x hx)).1;unfold Sm;omega
 .have:=Gm (kv (h.v1 x hx)).2;unfold Sm;omega
def vX:ak:=⟨[],[],[],[]⟩
abbrev ye(l:List ae)(k:ev):=lk (fun x:ae=>x.a) l k
abbrev wk(l:List ab)(k:ev):=lk (fun x:ab=>x.u) l k
abbrev AB(l:List ah)(k:ev):=lk (fun x:ah=>x.C) l k
def px(p:ev)(f:ae):Bool:=gv f.a p||gv p f.a
def gc(c:ai)(M:ak):Int×ak :=
 bif !decide (mF c=0)then(mF c,M)else
 bif decide (c.g=2)then(bif !(ye M.B c.j.a).isSome then(10,M)else(0,⟨M.F,l6 (·.a) c.j.a M.B,M.E,M.D⟩))else
 bif decide (c.g=4)then(bif !(wk M.E c.x.u).isSome then(10,M)else(0,⟨M.F,M.B,l6 (·.u) c.x.u M.E,M.D⟩))else
 bif decide (c.g=6)then(bif !(AB M.D c.h.C).isSome then(10,M)else(0,⟨M.F,M.B,M.E,l6 (·.C) c.h.C M.D⟩))else
 bif decide (c.g=1)then(bif M.B.any (px c.j.a)then(11,M)else bif !(ye M.B c.j.a).isSome&&decide (2000<=(M.B.length:Int))then(4,M)else(0,⟨M.F,ins (·.a) c.j M.B,M.E,M.D⟩))else
 bif decide (c.g=3)then(bif !(wk M.E c.x.u).isSome&&decide (2000<=(M.E.length:Int))then(4,M)else(0,⟨M.F,M.B,ins (·.u) c.x M.E,M.D⟩))else
 (bif !(AB M.D c.h.C).isSome&&decide (100<=(M.D.length:Int))then(4,M)else(0,⟨M.F,M.B,M.E,ins (·.C) c.h M.D⟩))
def uB:List ai->ak->ak×Int
 |[],M=>(M,0)
 |c::l,M=>bif !decide ((gc c M).1=0)then(vX,(gc c M).1)else uB l (gc c M).2
def mi(M:ak)(l:List ai):ak×Int:=bif !decide (Cs M=0)then(vX,Cs M)else uB l M
theorem Hc:(decide ((1:Int)=1)=true/\decide ((1:Int)=2)=false/\decide ((1:Int)=3)=false/\decide ((1:Int)=4)=false/\decide ((1:Int)=5)=false/\decide ((1:Int)=6)=false) /\
  (decide ((2:Int)=1)=false/\decide ((2:Int)=2)=true/\decide ((2:Int)=3)=false/\decide ((2:Int)=4)=false/\decide ((2:Int)=5)=false/\decide ((2:Int)=6)=false) /\
  (decide ((3:Int)=1)=false/\decide ((3:Int)=2)=false/\decide ((3:Int)=3)=true/\decide ((3:Int)=4)=false/\decide ((3:Int)=5)=false/\decide ((3:Int)=6)=false) /\
  (decide ((4:Int)=1)=false/\decide ((4:Int)=2)=false/\decide ((4:Int)=3)=false/\decide ((4:Int)=4)=true/\decide ((4:Int)=5)=false/\decide ((4:Int)=6)=false) /\
  (decide ((5:Int)=1)=false/\decide ((5:Int)=2)=false/\decide ((5:Int)=3)=false/\decide ((5:Int)=4)=false/\decide ((5:Int)=5)=true/\decide ((5:Int)=6)=false) /\
  (decide ((6:Int)=1)=false/\decide ((6:Int)=2)=false/\decide ((6:Int)=3)=false/\decide ((6:Int)=4)=false/\decide ((6:Int)=5)=false/\decide ((6:Int)=6)=true):=by decide
theorem oz{c:ai}(h:mF c=0):c.g=1∨c.g=2∨c.g=3∨c.g=4∨c.g=5∨c.g=6:=ws (MY h).1
theorem r7{c:ai}(h:mF c=0)(a:c.g=1):jb c.j=0:=by have:=(MY h).2.1;unfold mI at this;rw[a]at this;exact this
theorem A3{c:ai}(h:mF c=0)(a:c.g=3):lY c.x=0:=by have:=(MY h).2.1;unfold mI at this;rw[a]at this;exact this
theorem A2{c:ai}(h:mF c=0)(a:c.g=5):ir c.h=0:=by have:=(MY h).2.1;unfold mI at this;rw[a]at this;exact this
theorem tH(p:ev):gv p p=false:=by
 cases a:gv p p with
 |false=>rfl
 |true=>exact absurd (kW a) (FS _)
theorem M6{M:ak}(h:Good M)(c:ai):Good (gc c M).2:=by
 unfold gc;by_cases d:mF c=0
 .rw[decide_eq_true d,Bool.not_true,cond_false];have i:=h.c1;have k:=h.c2;have l:=h.c3;have m:=h.c4;rcases oz d with e|e|e|e|e|e;all_goals simp only[e,Hc,decide_true,cond_true,cond_false]
  .cases n:M.B.any (px c.j.a)
   .simp only[cond_false];cases b:!(ye M.B c.j.a).isSome&&decide (2000<=(M.B.length:Int))
    .simp only[cond_false]
     have g:∀x∈M.B,gv x.a c.j.a=false/\gv c.j.a x.a=false:=fun x hx=>by
      have:=any_eq_false.1 n x hx;simpa [px]using this
     refine { h with c2:=?_,g1:=?_,g2:=Bz h.g2 _,g3:=?_ }
     .show(ins (fun x:ae=>x.a) c.j M.B).length<=2000;rw[FX h.g2];simp only[Bool.and_eq_false_iff,Bool.not_eq_false',decide_eq_false_iff_not]at b;rcases b with b|b
      .rw[if_pos b];omega
      .split <;> omega
     .intro x hx;rcases mem_ins.1 hx with rfl|⟨hx,_⟩
      .exact r7 d e
      .exact h.g1 x hx
     .intro x hx y f;rcases mem_ins.1 hx with rfl|⟨hx,_⟩ <;> rcases mem_ins.1 f with rfl|⟨f,_⟩
      .exact tH _
      .exact(g y f).2
      .exact(g x hx).1
      .exact h.g3 x hx y f
    .exact h
   .exact h
  .cases b:!(ye M.B c.j.a).isSome
   .simp only[cond_false];refine { h with c2:=?_,g1:=?_,g2:=CD h.g2 _,g3:=?_ }
    .have:=Hg h.g2 c.j.a;show(l6 (fun x:ae=>x.a) c.j.a M.B).length<=2000;omega
    .intro x hx;exact h.g1 x (mem_del.1 hx).1
    .intro x hx y f;exact h.g3 x (mem_del.1 hx).1 y (mem_del.1 f).1
   .exact h
  .cases b:!(wk M.E c.x.u).isSome&&decide (2000<=(M.E.length:Int))
   .simp only[cond_false];refine { h with c3:=?_,s1:=?_,s2:=Bz h.s2 _ }
    .show(ins (fun x:ab=>x.u) c.x M.E).length<=2000;rw[FX h.s2];simp only[Bool.and_eq_false_iff,Bool.not_eq_false',decide_eq_false_iff_not]at b;rcases b with b|b
     .rw[if_pos b];omega
     .split <;> omega
    .intro x hx;rcases mem_ins.1 hx with rfl|⟨hx,_⟩
     .exact A3 d e
     .exact h.s1 x hx
   .exact h
  .cases b:!(wk M.E c.x.u).isSome
   .simp only[cond_false];refine { h with c3:=?_,s1:=?_,s2:=CD h.s2 _ }
    .have:=Hg h.s2 c.x.u;show(l6 (fun x:ab=>x.u) c.x.u M.E).length<=2000;omega
    .intro x hx;exact h.s1 x (mem_del.1 hx).1
   .exact h
  .cases b:!(AB M.D c.h.C).isSome&&decide (100<=(M.D.length:Int))
   .simp only[cond_false];refine { h with c4:=?_,v1:=?_,v2:=Bz h.v2 _ }
    .show(ins (fun x:ah=>x.C) c.h M.D).length<=100;rw[FX h.v2];simp only[Bool.and_eq_false_iff,Bool.not_eq_false',decide_eq_false_iff_not]at b;rcases b with b|b
     .rw[if_pos b];omega
     .split <;> omega
    .intro x hx;rcases mem_ins.1 hx with rfl|⟨hx,_⟩
     .exact A2 d e
     .exact h.v1 x hx
   .exact h
  .cases b:!(AB M.D c.h.C).isSome
   .simp only[cond_false];refine { h with c4:=?_,v1:=?_,v2:=CD h.v2 _ }
    .have:=Hg h.v2 c.h.C;show(l6 (fun x:ah=>x.C) c.h.C M.D).length<=100;omega
    .intro x hx;exact h.v1 x (mem_del.1 hx).1
   .exact h
 .rw[decide_eq_false d];exact h
abbrev gF:ev->ae->ae:=fun _ v=>v
abbrev gV:ev->ah->ah:=fun _ v=>v
structure Wr(m1:List (ev×ae))(m2:List (ev×ev))(m3:List (ev×ah))(M:ak):Prop where
 n1:(m1.map (·.1)).Nodup
 n2:(m2.map (·.1)).Nodup
 n3:(m3.map (·.1)).Nodup
 k1:∀k v,eG m1 k=some v->v.a=k
 k3:∀k v,eG m3 k=some v->v.C=k
 e1:mS gF jf m1=M.B
 e2:mS ab.mk [] m2=M.E
 e3:mS gV iC m3=M.D
theorem tF(l:List ab)(h:l.length<=274877906944):IY l=some l:=by
 unfold IY;refine Np ⟨false,fun h=>by cases h⟩ fun b a=>?_;cases b with
 |true=>rw[a rfl];rfl
 |false=>rw[cond_false,zg (by simpa using h)];rfl
theorem HR{M:ak}(h:Good M):∃c d e,yE M=some (c,d,e,M.F)/\Wr c d e M:=by
 have f:=h.c2;have g:=h.c3;have i:=h.c4;refine⟨mB (·.a) id M.B,mB (·.u) (·.Value) M.E,mB (·.C) id M.D,?_,?_⟩
 .unfold yE;simp only[eJ];refine(qe (key:=fun x:ae=>x.a) (w:=id) (fun _ _ _ _ _=>rfl) h.g2 (by omega)).trans ?_;refine(qe (key:=fun x:ab=>x.u) (w:=fun x=>x.Value) (fun _ _ _ _ _=>rfl) h.s2 (by omega)).trans ?_;exact qe (key:=fun x:ah=>x.C) (w:=id) (fun _ _ _ _ _=>rfl) h.v2 (by omega)
 .refine⟨M7 h.g2,M7 h.s2,M7 h.v2,fun k v b=>?_,fun k v b=>?_,kX h.g2 fun _ _=>rfl,kX h.s2 fun _ _=>rfl,kX h.v2 fun _ _=>rfl⟩
  .rw[ML]at b;obtain⟨x,hx,rfl⟩:=Option.map_eq_some_iff.1 b;exact(qN hx).2
  .rw[ML]at b;obtain⟨x,hx,rfl⟩:=Option.map_eq_some_iff.1 b;exact(qN hx).2
section
variable {m1:List (ev×ae)} {m2:List (ev×ev)} {m3:List (ev×ah)} {M:ak}
theorem Wr.l1(h:Wr m1 m2 m3 M):m1.length=M.B.length:=by rw[<-h.e1,kY]
theorem Wr.l2(h:Wr m1 m2 m3 M):m2.length=M.E.length:=by rw[<-h.e2,kY]
theorem Wr.l3(h:Wr m1 m2 m3 M):m3.length=M.D.length:=by rw[<-h.e3,kY]
theorem Wr.look1(h:Wr m1 m2 m3 M)(k:ev):eG m1 k=ye M.B k:=by
 rw[<-h.e1];refine Eq.trans ?_ (Bv (key:=fun x:ae=>x.a) (g:=gF) (d:=jf) h.k1 k).symm;cases eG m1 k <;> rfl
theorem Wr.look2(h:Wr m1 m2 m3 M)(k:ev):(eG m2 k).map (ab.mk k)=wk M.E k:=by rw[<-h.e2];exact(Bv (key:=fun x:ab=>x.u) (g:=ab.mk) (fun _ _ _=>rfl) k).symm
theorem Wr.look3(h:Wr m1 m2 m3 M)(k:ev):eG m3 k=AB M.D k:=by
 rw[<-h.e3];refine Eq.trans ?_ (Bv (key:=fun x:ah=>x.C) (g:=gV) (d:=iC) h.k3 k).symm;cases eG m3 k <;> rfl
theorem Wr.is2(h:Wr m1 m2 m3 M)(k:ev):(eG m2 k).isSome=(wk M.E k).isSome:=by rw[<-h.look2,Option.isSome_map]
theorem Wr.mem1(h:Wr m1 m2 m3 M){p:ev×ae}(a:p∈m1):p.2∈M.B/\p.2.a=p.1:=by have:=j6 h.n1 a;exact⟨(qN ((h.look1 _).symm.trans this)).1,h.k1 _ _ this⟩
theorem Wr.put1(h:Wr m1 m2 m3 M)(f:ae):Wr (eM m1 f.a f) m2 m3 ⟨M.F,ins (·.a) f M.B,M.E,M.D⟩ :=
 { h with
  n1:=Nj h.n1 _ _
  k1:=fun k v b=>by
   rw[yG]at b;split at b
   .rename_i e;cases b;exact e
   .exact h.k1 _ _ b
  e1:=by rw[<-h.e1];exact OC (key:=fun x:ae=>x.a) (g:=gF) h.n1 h.k1 _ _ rfl }
theorem Wr.put2(h:Wr m1 m2 m3 M)(f:ab):Wr m1 (eM m2 f.u f.Value) m3 ⟨M.F,M.B,ins (·.u) f M.E,M.D⟩ :=
 { h with
  n2:=Nj h.n2 _ _
  e2:=by rw[<-h.e2];exact OC (key:=fun x:ab=>x.u) (g:=ab.mk) h.n2 (fun _ _ _=>rfl) _ _ rfl }
theorem Wr.put3(h:Wr m1 m2 m3 M)(f:ah):Wr m1 m2 (eM m3 f.C f) ⟨M.F,M.B,M.E,ins (·.C) f M.D⟩ :=
 { h with
  n3:=Nj h.n3 _ _
  k3:=fun k v a=>by
   rw[yG]at a;split at a
   .rename_i e;cases a;exact e
   .exact h.k3 _ _ a
  e3:=by rw[<-h.e3];exact OC (key:=fun x:ah=>x.C) (g:=gV) h.n3 h.k3 _ _ rfl }
theorem Wr.del1(h:Wr m1 m2 m3 M)(k:ev):Wr (jo m1 k) m2 m3 ⟨M.F,l6 (·.a) k M.B,M.E,M.D⟩ :=
 { h with
  n1:=Ni h.n1 _
  k1:=fun k v b=>by
   rw[HT h.n1]at b;split at b
   .cases b
   .exact h.k1 _ _ b
  e1:=by rw[<-h.e1];exact OB (key:=fun x:ae=>x.a) (g:=gF) h.n1 h.k1 _ }
theorem Wr.del2(h:Wr m1 m2 m3 M)(k:ev):Wr m1 (jo m2 k) m3 ⟨M.F,M.B,l6 (·.u) k M.E,M.D⟩ :=
 { h with
  n2:=Ni h.n2 _
  e2:=by rw[<-h.e2];exact OB (key:=fun x:ab=>x.u) (g:=ab.mk) h.n2 (fun _ _ _=>rfl) _ }
theorem Wr.del3(h:Wr m1 m2 m3 M)(k:ev):Wr m1 m2 (jo m3 k) ⟨M.F,M.B,M.E,l6 (·.C) k M.D⟩ :=
 { h with
  n3:=Ni h.n3 _
  k3:=fun k v a=>by
   rw[HT h.n3]at a;split at a
   .cases a
   .exact h.k3 _ _ a
  e3:=by rw[<-h.e3];exact OB (key:=fun x:ah=>x.C) (g:=gV) h.n3 h.k3 _ }
theorem qf(h:Wr m1 m2 m3 M)(a:Good M):GH M.F m1 m2 m3=some M:=by have l:=h.l1;have n:=h.l2;have o:=h.l3;have b:=a.c1;have c:=a.c2;have e:=a.c3;have f:=a.c4;have i:NP m1=some (pi m1):=Ow m1 (by omega);have j:NM m2=some (pi m2):=Ow m2 (by omega);have k:NU m3=some (pi m3):=Ow m3 (by omega);unfold GH;simp only[eJ,tF _ (show M.F.length<=274877906944 by omega),zf,i,j,k];refine(Pz (g:=gF) (d:=jf) (m:=m1) (fun _ _ _ _ _=>rfl) (by omega)).trans ?_;refine(Pz (g:=ab.mk) (d:=[]) (m:=m2) (fun _ _ _ _ _=>rfl) (by omega)).trans ?_;refine(Pz (g:=gV) (d:=iC) (m:=m3) (fun _ _ _ _ _=>rfl) (by omega)).trans ?_;rw[h.e1,h.e2,h.e3]
theorem Ci(h:Wr m1 m2 m3 M)(z:Good M)(c:ai)(U:kL c)(o:List ab) :
  ∃a b d,yN c o m1 m2 m3=some ((gc c M).1,a,b,d)/\Wr a b d (gc c M).2:=by
 have P:=h.l1;have V:=h.l2;have W:=h.l3;have Z:=z.c1;have hc2:=z.c2;have hc3:=z.c3;have hc4:=z.c4;unfold yN gc;rw[Rw c U,zf];by_cases J:mF c=0
 .rw[decide_eq_true J,Bool.not_true,cond_false];simp only[eJ,fK,h.look1,h.look3,h.is2,P,V,W];rcases oz J with e|e|e|e|e|e;all_goals simp only[e,Hc,decide_true,cond_true,cond_false]
  .have Q:=Gm (Nd (r7 J e)).1
   have A:∀(X:Int×List (ev×ae)×List (ev×ev)×List (ev×ah)) (k:Unit->Option (Int×List (ev×ae)×List (ev×ev)×List (ev×ah))) (Y:Int×List (ev×ae)×List (ev×ev)×List (ev×ah)),k ()=some Y ->
     forM (fun(l:ev×ae) (s:Unit) q K =>
      call (uE l.1 c.j.a) fun m =>
      callG (!m) (uE c.j.a l.1) false fun v =>
      bif (m||v)then some X else q ()) M.B.length m1 () k=some (bif M.B.any (px c.j.a)then X else Y):=by
    intro X k Y hk;have F:M.B.any (px c.j.a)=m1.any fun p=>px c.j.a p.2:=by
     rw[Bool.eq_iff_iff];simp only[any_eq_true];constructor
     .rintro⟨x,hx,w⟩;exact⟨(x.a,x),kF ((h.look1 _).trans (lC z.g2 hx)),w⟩
     .rintro⟨p,L,w⟩;exact⟨p.2,(h.mem1 L).1,w⟩
    rw[F];refine MG (fun r _=>(∀p∈r,p∈m1)/\(m1.any fun p=>px c.j.a p.2)=r.any fun p=>px c.j.a p.2) (fun s hs=>?_) (fun r s nx x j G hx N=>?_) _ _ _ P ⟨fun _ h=>h,rfl⟩
    .rw[hs.2];exact hk
    .have O:=G.1 x (mem_of_getElem? hx);obtain⟨q1,R⟩:=h.mem1 O;have hl:=Gm (Nd (z.g1 _ q1)).1;rw[R]at hl;rw[MQ _ _ (by omega),MQ _ _ (by omega),zf,gU];have g:px c.j.a x.2=(gv x.1 c.j.a||gv c.j.a x.1):=by unfold px;rw[R]
     have t:=NE hx;have f:(r.any fun p=>px c.j.a p.2)=(px c.j.a x.2||(r.eraseIdx j).any fun p=>px c.j.a p.2):=by
      rw[Bool.eq_iff_iff];simp only[Bool.or_eq_true,any_eq_true];constructor
      .rintro⟨y,H,i⟩;rcases mem_cons.1 (t.mem_iff.1 H)with rfl|H
       .exact .inl i
       .exact .inr ⟨y,H,i⟩
      .rintro(i|⟨y,H,i⟩)
       .exact⟨x,t.mem_iff.2 (mem_cons_self ..),i⟩
       .exact⟨y,t.mem_iff.2 (mem_cons_of_mem _ H),i⟩
     cases S:gv x.1 c.j.a with
     |true =>
      rw[S,Bool.true_or]at g;rw[Bool.true_or,cond_true,G.2,f,g,Bool.true_or,cond_true]
     |false =>
      rw[S,Bool.false_or]at g;rw[Bool.false_or,Bool.not_false,cond_true];cases T:gv c.j.a x.1 with
      |true =>
       rw[T]at g;rw[cond_true,G.2,f,g,Bool.true_or,cond_true]
      |false =>
       rw[T]at g;rw[g,Bool.false_or]at f;rw[cond_false];exact N () ⟨fun p Q=>G.1 p (t.mem_iff.2 (mem_cons_of_mem _ Q)),G.2.trans f⟩
   have I:=F5 m1 c.j.a c.j;have n:(eM m1 c.j.a c.j).length<=274877906944:=by split at I <;> omega
   rw[zg n];rw[A _ _ (bif !(ye M.B c.j.a).isSome&&decide (2000<=(M.B.length:Int))then(4,m1,m2,m3)else(0,eM m1 c.j.a c.j,m2,m3)) (qK _ _ _)];cases M.B.any (px c.j.a)
   .simp only[cond_false];cases !(ye M.B c.j.a).isSome&&decide (2000<=(M.B.length:Int))
    .exact⟨_,_,_,rfl,h.put1 _⟩
    .exact⟨_,_,_,rfl,h⟩
   .exact⟨_,_,_,rfl,h⟩
  .cases (ye M.B c.j.a).isSome
   .exact⟨_,_,_,rfl,h⟩
   .exact⟨_,_,_,rfl,h.del1 _⟩
  .have I:=F5 m2 c.x.u c.x.Value;have n:(eM m2 c.x.u c.x.Value).length<=274877906944:=by split at I <;> omega
   rw[zg n];cases !(wk M.E c.x.u).isSome&&decide (2000<=(M.E.length:Int))
   .exact⟨_,_,_,rfl,h.put2 _⟩
   .exact⟨_,_,_,rfl,h⟩
  .cases (wk M.E c.x.u).isSome
   .exact⟨_,_,_,rfl,h⟩
   .exact⟨_,_,_,rfl,h.del2 _⟩
  .have I:=F5 m3 c.h.C c.h;have n:(eM m3 c.h.C c.h).length<=274877906944:=by split at I <;> omega
   rw[zg n];cases !(AB M.D c.h.C).isSome&&decide (100<=(M.D.length:Int))
   .exact⟨_,_,_,rfl,h.put3 _⟩
   .exact⟨_,_,_,rfl,h⟩
  .cases (AB M.D c.h.C).isSome
   .exact⟨_,_,_,rfl,h⟩
   .exact⟨_,_,_,rfl,h.del3 _⟩
 .rw[decide_eq_false J];exact⟨_,_,_,rfl,h⟩
end
theorem Pt(c:ai)(M:ak):(gc c M).2.F=M.F:=by
 unfold gc;generalize a:(!decide (mF c=0))=b;generalize decide (c.g=2)=d;generalize decide (c.g=4)=e;generalize decide (c.g=6)=f;generalize decide (c.g=1)=h;generalize decide (c.g=3)=i;cases b <;> cases d <;> cases e <;> cases f <;> cases h <;> cases i <;> simp only[cond_true,cond_false] <;> (first|rfl|(split <;> rfl)|skip)
 all_goals repeat' (first|rfl|(rw[Bool.cond_eq_ite];split))
theorem Rh(M:ak)(z:GW M)(l:List ai)(A:∀c∈l,kL c):BA M l=some (mi M l):=by
 unfold BA mi;rw[H3 M z,zf];by_cases q:Cs M=0
 .rw[decide_eq_true q,Bool.not_true,cond_false,cond_false];have u:=(Ou M).1 q;obtain⟨m1,m2,m3,e,m⟩:=HR u;rw[e,zf];simp only[eJ]
  have:∀(l:List ai) (i:Nat) (m1:List (ev×ae)) (m2:List (ev×ev)) (m3:List (ev×ah)) (N:ak),(∀c∈l,kL c)->Good N->N.F=M.F->Wr m1 m2 m3 N ->
    forL l i (fun v n s k w =>
     match s with
     |(g,h,j) =>
      call (yN n M.F g h j) fun f =>
      bif !decide (f.1=0)then
       some ((ak.mk [] [] [] []),f.1)
      else
      k (f.2.1,f.2.2.1,f.2.2.2)) (m1,m2,m3) (fun s=>match s with
     |(g,h,j) =>
      call (GH M.F g h j) fun o =>
       some (o,(0:Int)))=some (uB l N):=by
   intro l;induction l with
   |nil =>
    intro i m1 m2 m3 N _ p r m;unfold forL;simp only;rw[<-r,qf m p,zf];rfl
   |cons c l B =>
    intro i m1 m2 m3 N y p r m;unfold forL;simp only;obtain⟨a,b,d,e,t⟩:=Ci m p c (y c (mem_cons_self ..)) M.F;rw[e,zf];simp only[uB];rw[B _ _ _ _ _ (fun x hx=>y x (mem_cons_of_mem _ hx)) (M6 p c) ((Pt c N).trans r) t];exact qK _ _ _
  exact this l 0 m1 m2 m3 M A u rfl m
 .rw[decide_eq_false q];rfl
def Ends{Z:Type}(m:Option Z)(P:Z->Prop):Prop:=∃z,m=some z/\P z
section
variable {Z A S α:Type} {P:Z->Prop}
theorem Ends.call{a:Option A}{k:A->Option Z}{Q:A->Prop}(h:Ends a Q)(b:∀x,Q x->Ends (k x) P):Ends (Vc.call a k) P:=by obtain⟨x,rfl,hx⟩:=h;exact b x hx
theorem pm{f:Nat->α->S->(S->Option Z)->(S->Option Z)->Option Z}{k:S->Option Z}(a:Nat->List α->S->Prop)
  (c:∀i s,a i [] s->Ends (k s) P) (d:∀i x l s nx,a i (x::l) s->(∀b,a (i+1) l b->Ends (nx b) P)->Ends (f i x s nx k) P) :
  ∀(l:List α) (i:Nat) (s:S),a i l s->Ends (forL l i f s k) P
 |[],i,s,h=>c i s h
 |x::l,i,s,h=>d i x l s _ h fun b e=>pm a c d l (i+1) b e
theorem OO{f:S->(S->Option Z)->(S->Option Z)->Option Z}{k:S->Option Z}(a:S->Prop)(c:S->Nat)
  (h:∀s nx,a s->(∀b,a b->c b<c s->Ends (nx b) P)->Ends (f s nx k) P):∀(N:Nat) (s:S),a s->c s<N->Ends (loopN N f s k) P
 |0,s,_,e=>by omega
 |N+1,s,hi,e=>by
  unfold loopN;exact h s _ hi fun b d g=>OO a c h N b d (by omega)
theorem Ge{f:S->(S->Option Z)->(S->Option Z)->Option Z}{k:S->Option Z}(a:S->Prop)(b:S->Nat)
  (h:∀s nx,a s->(∀c,a c->b c<b s->Ends (nx c) P)->Ends (f s nx k) P) (s:S) (hi:a s) (g:b s<1099511627776):Ends (loopN ff f s k) P:=by
 obtain⟨N,d⟩:∃N,ff=N:=⟨_,rfl⟩;have e:1099511627776<=N:=d ▸ qM;rw[d];exact OO a b h N s hi (by omega)
end
abbrev eZ(o:List ab)(p:Nat):ev:=(o.getD p (ab.mk [] [])).u
theorem AW(a b:ab):M0 a b=some (fb a.u b.u):=rfl
theorem Oq{α:Type}(o:List α)(i p:Nat)(x d:α)(h:i<o.length):(o.set i x).getD p d=if i=p then x else o.getD p d:=by
 simp only[getD_eq_getElem?_getD,getElem?_set];by_cases e:i=p
 .subst e;simp[h]
 .simp[e]
theorem Oo{α:Type}(o:List α)(i:Nat)(d:α)(h:i<o.length):o.getD i d∈o:=by simp only[getD_eq_getElem?_getD,getElem?_eq_getElem h,Option.getD_some];exact getElem_mem h
structure mq(o0 o:List ab):Prop where
 len:o.length=o0.length
 sub:∀x∈o,x∈o0
 ord:∀p q,p<q->q<o.length->¬ eZ o q<eZ o p
theorem rL(f:List ab)(O:f.length<=1073741824):Ends (zt 0 (f.length:Int) f) (mq f):=by
 unfold zt;rw[show IntKind.i64.wrap ((0:Int)+1)=((1:Nat):Int)from rfl];refine Ge (fun b:Int×List ab=>∃i:Nat,b.1=i/\1<=i/\(i<=f.length∨i=1)/\b.2.length=f.length/\(∀x∈b.2,x∈f)/\∀p q,p<q->q<i->q<f.length->¬ eZ b.2 q<eZ b.2 p) (fun b=>f.length-b.1.toNat) ?_ _ ⟨1,rfl,by omega,by omega,rfl,fun _ h=>h,fun p q k s=>by omega⟩ (by simp only;omega);rintro⟨P,o⟩ nx ⟨i,rfl,K,hi,C,D,E⟩ v;simp only at C D E v|-;by_cases L:i<f.length
 .rw[decide_eq_true (by omega),cond_true,eJ];refine Ge (fun b:Int×List ab=>∃j:Nat,b.1=j/\j<=i/\b.2.length=f.length/\(∀x∈b.2,x∈f)/\∀p q,p<q->q<=i->q≠j->¬ eZ b.2 q<eZ b.2 p) (fun b=>b.1.toNat) ?_ _ ⟨i,rfl,Nat.le_refl _,C,D,fun p q k s F=>E p q k (by omega) (by omega)⟩ (by simp only;omega);rintro⟨Q,a⟩ M ⟨j,rfl,R,t,g,c⟩ l;simp only at t g c l|-
  have m:(j=0∨¬ eZ a j<eZ a (j-1))->Ends (nx (IntKind.i64.wrap ((i:Int)+1),a)) (mq f):=by
   intro d;rw[fw i (by omega)];refine v _ ⟨i+1,rfl,by omega,by omega,t,g,fun p q k s F=>?_⟩ (by simp only;omega);by_cases n:q=j
   .subst n;rcases d with d|d
    .omega
    .by_cases u:p=q-1
     .rw[u];exact d
     .have I:=c p (q-1) (by omega) (by omega) (by omega);intro J;rcases FT (eZ a q) (eZ a (q-1))with w|w|w
      .exact d w
      .exact I (w ▸ J)
      .exact I (Gg w J)
   .exact c p q k (by omega) n
  by_cases d:0<j
  .have N:IntKind.i64.wrap ((j:Int)-1)=((j-1:Nat):Int):=yp _ d (by omega);simp only[N];rw[decide_eq_true (by omega),zg (by intro _;omega),zg (by intro _;omega),yH,AW,zf,Bool.true_and,Bc];simp only[Int.toNat_natCast];by_cases z:eZ a j<eZ a (j-1)
   .rw[decide_eq_true z,cond_true,zg (by omega),zg (by omega),zg (by omega),zg (by simp only[length_set];omega)];refine l _ ⟨j-1,rfl,by omega,by simpa using t,fun x hx=>?_,fun p q k s F=>?_⟩ (by simp only;omega)
    .rcases mem_or_eq_of_mem_set hx with hx|rfl
     .rcases mem_or_eq_of_mem_set hx with hx|rfl
      .exact g x hx
      .exact g _ (Oo _ _ _ (by omega))
     .exact g _ (Oo _ _ _ (by omega))
    .have r:∀p,eZ ((a.set j (a.getD (j-1) (ab.mk [] []))).set (j-1) (a.getD j (ab.mk [] []))) p=if p=j-1 then eZ a j else if p=j then eZ a (j-1)else eZ a p:=by
      intro p;unfold eZ;rw[Oq _ _ _ _ _ (by simp only[length_set];omega),Oq _ _ _ _ _ (by omega)];by_cases A:j-1=p
      .rw[if_pos A,if_pos A.symm]
      .have G:¬ p=j-1:=fun e=>A e.symm;rw[if_neg A,if_neg G];by_cases B:j=p
       .rw[if_pos B,if_pos B.symm]
       .have H:¬ p=j:=fun e=>B e.symm;rw[if_neg B,if_neg H]
     show ¬ eZ ((a.set j (a.getD (j-1) (ab.mk [] []))).set (j-1) (a.getD j (ab.mk [] []))) q<eZ ((a.set j (a.getD (j-1) (ab.mk [] []))).set (j-1) (a.getD j (ab.mk [] []))) p;rw[r,r,if_neg F];by_cases n:q=j
     .subst n;rw[if_pos rfl];by_cases u:p=q-1
      .rw[if_pos u];exact M1 z
      .rw[if_neg u,if_neg (by omega)];exact c p (q-1) (by omega) (by omega) (by omega)
     .rw[if_neg n];by_cases u:p=j-1
      .rw[if_pos u];exact c j q (by omega) s n
      .rw[if_neg u];by_cases y:p=j
       .rw[if_pos y];exact c (j-1) q (by omega) s n
       .rw[if_neg y];exact c p q k s n
   .rw[decide_eq_false z,cond_false];exact m (.inr z)
  .rw[decide_eq_false (by omega),zg (by intro h;cases h),zg (by intro h;cases h),C1,Bool.false_and,cond_false];exact m (.inl (by omega))
 .rw[decide_eq_false (by omega),cond_false];exact⟨_,rfl,C,D,fun p q k s=>E p q k (by omega) (by omega)⟩
theorem tg(o:List ab):zt 20 20 o=some o:=by unfold zt;obtain⟨N,a⟩:∃N,ff=N+1:=⟨1099511627775,rfl⟩;rw[a];unfold loopN;rfl
theorem nH{Z S:Type}{f:S->(S->Option Z)->(S->Option Z)->Option Z}{k:S->Option Z}{s:S}(h:∀nx,f s nx k=k s):loopN ff f s k=k s:=by obtain⟨N,a⟩:∃N,ff=N+1:=⟨1099511627775,rfl⟩;rw[a];unfold loopN;exact h _
theorem pV(a:List ab)(h:a.length<=20):Ends (zK a) (mq a):=by
 unfold zK NV;refine Ends.call (Q:=mq a) ?_ fun x hx=>⟨x,rfl,hx⟩;rw[eJ];by_cases d:a.length=20
 .obtain⟨o,e,f⟩:=rL a (by omega);rw[d]at e|-;have g:zt 0 20 a=some o:=e;refine Ge (fun b:Int×Int×List ab=>(b=(0,20,a))∨b=(20,40,o)) (fun b=>40-b.2.1.toNat) ?_ _ (.inl rfl) (by simp only;omega);rintro b nx (rfl|rfl) c
  .simp only;rw[decide_eq_true (by omega),cond_true,g,zf];exact c _ (.inr rfl) (show 40-(IntKind.i64.wrap (20+20)).toNat<40-(20:Int).toNat by decide)
  .simp only;rw[decide_eq_false (by omega),cond_false];refine Ends.call (Q:=fun x=>x=o) ⟨o,tg o,rfl⟩ ?_;rintro x rfl;rw[nH (fun nx=>by simp only;rw[decide_eq_false (by omega),cond_false])];exact⟨_,rfl,f⟩
 .refine Ge (fun b:Int×Int×List ab=>b=(0,20,a)) (fun b=>0) ?_ _ rfl (by omega);rintro b nx rfl c;simp only;rw[decide_eq_false (by omega),cond_false];refine Ends.call (rL a (by omega)) fun o f=>?_;rw[nH (fun nx=>by simp only;rw[decide_eq_false (by omega),cond_false])];exact⟨_,rfl,f⟩
def fW(z:Nat×Nat×List ab):List ab:=List.take z.2.1 (List.drop z.1 z.2.2)
structure tZ(o:List ab)(z:Nat×Nat×List ab):Prop where
 len:(fW z).length<=o.length
 sub:∀x∈fW z,x∈o
 srt:fG (·.u) (fW z)
theorem rU(a b:ab):HE a b=some (decide (a.u=b.u)):=rfl
theorem Pe{l:List ab}(h:∀p q,p<q->q<l.length->eZ l p<eZ l q):fG (·.u) l:=by
 unfold fG;rw[pairwise_iff_getElem];intro i j hi b a;have:=h i j a b;simpa [eZ,getD_eq_getElem?_getD,hi,b]using this
theorem nT{o:List ab}{n p:Nat}(h:p<n):eZ (o.take n) p=eZ o p:=by simp[eZ,getD_eq_getElem?_getD,getElem?_take,h]
theorem Ba(o:List ab)(W:o.length<=1073741824)(H:∀p q,p<q->q<o.length->¬ eZ o q<eZ o p) :
  Ends (zM o) (tZ o):=by
 unfold zM;have K:List.take o.length o=o:=by simp
 rw[K];by_cases w:(o.length:Int)<2
 .rw[decide_eq_true w,cond_true];refine⟨_,rfl,?_,?_,?_⟩
  .simp[fW]
  .intro x hx;simpa [fW]using hx
  .refine Pe fun p q l n=>?_;simp[fW]at n;omega
 .rw[decide_eq_false w,cond_false,eJ];refine Ge (fun k:Int=>∃i:Nat,k=i/\1<=i/\i<=o.length/\∀p q,p<q->q<i->eZ o p<eZ o q) (fun k=>o.length-k.toNat) ?_ _ ⟨1,rfl,Nat.le_refl _,by omega,fun p q I w=>by omega⟩ (by omega);rintro X nx ⟨K0,rfl,C,L,y⟩ D;by_cases M:K0<o.length
  .have N:IntKind.i64.wrap ((K0:Int)-1)=((K0-1:Nat):Int):=yp _ C (by omega);simp only[N,Int.toNat_natCast,Nat.zero_add];rw[decide_eq_true (by omega),cond_true,eJ,zg (by omega),zg (by omega),rU,zf];by_cases z:eZ o K0=eZ o (K0-1)
   .rw[decide_eq_true z,cond_true,zg (by omega),eJ]
    refine Ge (fun c:Int×Int×List ab=>∃k a:Nat,c.1=k/\c.2.1=a/\K0<=k/\1<=a/\k+1<=K0+a/\K0+a<=o.length/\c.2.2.length=o.length/\(∀x∈c.2.2,x∈o) /\
      (∀p,K0+a<=p+1->eZ c.2.2 p=eZ o p/\c.2.2.getD p (ab.mk [] [])=o.getD p (ab.mk [] []))/\(∀p q,p<q->q<k->eZ c.2.2 p<eZ c.2.2 q)/\eZ c.2.2 (k-1)=eZ o (K0+a-1)) (fun c=>o.length-c.2.1.toNat) ?_ _
     ⟨K0,1,rfl,rfl,Nat.le_refl _,Nat.le_refl _,Nat.le_refl _,by omega,rfl,fun _ h=>h,fun _ _=>⟨rfl,rfl⟩,y,by simpa using z.symm⟩ (by simp only;omega)
    rintro⟨Y,O,b⟩ P ⟨k,a,rfl,rfl,Q,R,Z,q4,A,q6,r,s,B⟩ d;simp only at A q6 r s B d|-;have J:(List.take (o.length-K0) (List.drop K0 b)).length=o.length-K0:=by simp[A]
    by_cases S:K0+a<o.length
    .have E:IntKind.i64.wrap ((a:Int)-1)=((a-1:Nat):Int):=yp _ R (by omega);simp only[E,Int.toNat_natCast];rw[decide_eq_true (by omega),cond_true,zg (by omega),zg (by omega),zg (by omega),zg (by omega),rU,zf];have T:K0+(a-1)=K0+a-1:=by omega
     have F:=(r (K0+a) (by omega)).1;have U:=(r (K0+a-1) (by omega)).1;have t:decide ((ab.mk ((b.getD (K0+a) (ab.mk [] [])).u) ((b.getD (K0+a) (ab.mk [] [])).Value)).u=(ab.mk ((b.getD (K0+(a-1)) (ab.mk [] [])).u) ((b.getD (K0+(a-1)) (ab.mk [] [])).Value)).u)=decide (eZ o (K0+a)=eZ o (K0+a-1)):=by
      simp only[T];show decide (eZ b (K0+a)=eZ b (K0+a-1))=_;rw[F,U]
     rw[t];by_cases m:eZ o (K0+a)=eZ o (K0+a-1)
     .rw[decide_eq_true m,Bool.not_true,cond_false,fw a (by omega)];refine d _ ⟨k,a+1,rfl,rfl,Q,by omega,by omega,by omega,A,q6,fun p l=>r p (by omega),s,?_⟩ (by simp only;omega);simp only;rw[B,show K0+(a+1)-1=K0+a by omega,m]
     .rw[decide_eq_false m,Bool.not_false,cond_true,zg (by omega),zg (by omega),zg (by omega),zg (by omega),fw a (by omega),fw k (by omega)]
      have f:eZ o (K0+a-1)<eZ o (K0+a):=by
       rcases FT (eZ o (K0+a-1)) (eZ o (K0+a))with h|h|h
       .exact h
       .exact absurd h.symm m
       .exact absurd h (H _ _ (by omega) (by omega))
      have g:∀p,(b.set k (ab.mk ((b.getD (K0+a) (ab.mk [] [])).u) ((b.getD (K0+a) (ab.mk [] [])).Value))).getD p (ab.mk [] [])=if k=p then b.getD (K0+a) (ab.mk [] [])else b.getD p (ab.mk [] []):=by intro p;rw[Oq _ _ _ _ _ (by omega)]
      refine d _ ⟨k+1,a+1,rfl,rfl,by omega,by omega,by omega,by omega,by simpa using A,fun x hx=>?_,fun p l=>?_,fun p q l n=>?_,?_⟩ (by simp only;omega)
      .rcases mem_or_eq_of_mem_set hx with hx|rfl
       .exact q6 x hx
       .exact q6 _ (Oo _ _ _ (by omega))
      .simp only[eZ,g];rw[if_neg (by omega)];exact r p (by omega)
      .simp only[eZ,g];rw[if_neg (by omega)];by_cases v:q=k
       .subst v;rw[if_pos rfl];show eZ b p<eZ b (K0+a);rw[F];by_cases G:p=q-1
        .subst G;rw[B];exact f
        .have:=s p (q-1) (by omega) (by omega);rw[B]at this;exact Gg this f
       .rw[if_neg (fun e=>v e.symm)];exact s p q l (by omega)
      .simp only[eZ,g];rw[if_pos (by omega)];show eZ b (K0+a)=eZ o (K0+(a+1)-1);rw[F];rfl
    .rw[decide_eq_false (by omega),cond_false,zg (by omega),zg (by omega)];have j:fW (0,k,List.take k b++List.replicate (o.length-k) (ab.mk [] [])++List.drop (k+(o.length-k)) b)=b.take k:=by unfold fW;simp only[drop_zero,append_assoc];rw[take_append_of_le_length (by simp only[length_take];omega),take_take,Nat.min_self]
     refine⟨_,rfl,?_,?_,?_⟩
     .show(fW (0,k,_)).length<=_;rw[Int.toNat_natCast,j,length_take];omega
     .show ∀x∈fW (0,k,_),_;rw[Int.toNat_natCast,j];exact fun x hx=>q6 x (mem_of_mem_take hx)
     .show fG _ (fW (0,k,_));rw[Int.toNat_natCast,j];refine Pe fun p q l n=>?_;rw[length_take]at n;rw[nT (by omega),nT (by omega)];exact s p q l (by omega)
   .rw[decide_eq_false z,cond_false,fw K0 (by omega)];refine D _ ⟨K0+1,rfl,by omega,by omega,fun p q I w=>?_⟩ (by omega)
    have f:eZ o (K0-1)<eZ o K0:=by
     rcases FT (eZ o (K0-1)) (eZ o K0)with h|h|h
     .exact h
     .exact absurd h.symm z
     .exact absurd h (H _ _ (by omega) (by omega))
    by_cases n:q=K0
    .subst n;by_cases l:p=q-1
     .subst l;exact f
     .exact Gg (y p (q-1) (by omega) (by omega)) f
    .exact y p q I (by omega)
  .rw[decide_eq_false (by omega),cond_false];refine⟨_,rfl,?_,?_,?_⟩
   .simp[fW]
   .intro x hx;simpa [fW]using hx
   .have V:fW (0,o.length,o)=o:=by simp[fW]
    show fG _ (fW (0,o.length,o));rw[V];exact Pe fun p q l n=>y p q l (by omega)
structure Fw(a b d:Nat)(M:ak):Prop where
 good:Good M
 facts:M.F.length<=20
 files:M.B.length<=a
 data:∀f∈M.B,f.G.length<=3000
 sets:M.E.length<=b
 svcs:M.D.length<=d
def ut(f:ae):ai:=⟨1,f,⟨[],[]⟩,⟨[],[],false,false⟩⟩
def xS(s:ab):ai:=⟨3,⟨[],[],false⟩,s,⟨[],[],false,false⟩⟩
def xT(s:ah):ai:=⟨5,⟨[],[],false⟩,⟨[],[]⟩,s⟩
theorem AV(c:ai)(b:kL c)(M:ak)(h:Good M):BN c M.F M.B M.E M.D=some (bif decide ((gc c M).1=0)then((gc c M).2.F,(gc c M).2.B,(gc c M).2.E,(gc c M).2.D)else(M.F,M.B,M.E,M.D)):=by
 unfold BN;rw[Rh _ h.fit [c] (fun x hx=>by rcases mem_cons.1 hx with rfl|hx;exact b;cases hx),zf];unfold mi;rw[decide_eq_true ((Ou M).2 h),Bool.not_true,cond_false];unfold uB uB;by_cases a:(gc c M).1=0
 .rw[decide_eq_true a];rfl
 .rw[decide_eq_false a];simp only[Bool.not_false,cond_true];rw[decide_eq_false a];rfl
section
variable {a b d:Nat} {M:ak}
theorem Fw.next(h:Fw a b d M)(c:ai):Good (gc c M).2/\(gc c M).2.F.length<=20:=⟨M6 h.good c,by rw[Pt];exact h.facts⟩
theorem vm(f:ae)(M:ak):(gc (ut f) M).2=M∨(gc (ut f) M).2=⟨M.F,ins (·.a) f M.B,M.E,M.D⟩:=by
 unfold gc;have b:(ut f).g=1:=rfl;rw[b];simp only[Hc,decide_true,cond_true,cond_false];cases !decide (mF (ut f)=0)
 .cases M.B.any (px (ut f).j.a)
  .cases !(ye M.B (ut f).j.a).isSome&&decide (2000<=(M.B.length:Int))
   .exact .inr rfl
   .exact .inl rfl
  .exact .inl rfl
 .exact .inl rfl
theorem vl(f:ab)(M:ak):(gc (xS f) M).2=M∨(gc (xS f) M).2=⟨M.F,M.B,ins (·.u) f M.E,M.D⟩:=by
 unfold gc;have a:(xS f).g=3:=rfl;rw[a];simp only[Hc,decide_true,cond_true,cond_false];cases !decide (mF (xS f)=0)
 .cases !(wk M.E (xS f).x.u).isSome&&decide (2000<=(M.E.length:Int))
  .exact .inr rfl
  .exact .inl rfl
 .exact .inl rfl
theorem vk(f:ah)(M:ak):(gc (xT f) M).2=M∨(gc (xT f) M).2=⟨M.F,M.B,M.E,ins (·.C) f M.D⟩:=by
 unfold gc;have a:(xT f).g=5:=rfl;rw[a];simp only[Hc,decide_true,cond_true,cond_false];cases !decide (mF (xT f)=0)
 .cases !(AB M.D (xT f).h.C).isSome&&decide (100<=(M.D.length:Int))
  .exact .inr rfl
  .exact .inl rfl
 .exact .inl rfl
theorem Fw.put(h:Fw a b d M)(f:ae)(i:f.G.length<=3000):Fw (a+1) b d (gc (ut f) M).2:=by
 obtain⟨c,g⟩:=h.next (ut f);rcases vm f M with e|e <;> rw[e]at c g|-
 .exact⟨c,g,by have:=h.files;omega,h.data,h.sets,h.svcs⟩
 .refine⟨c,g,?_,fun x hx=>?_,h.sets,h.svcs⟩
  .have:=h.files;show(ins (fun x:ae=>x.a) f M.B).length<=_;rw[FX h.good.g2];split <;> omega
  .rcases mem_ins.1 hx with rfl|⟨hx,_⟩
   .exact i
   .exact h.data x hx
theorem Fw.set(h:Fw a b d M)(f:ab):Fw a (b+1) d (gc (xS f) M).2:=by
 obtain⟨c,g⟩:=h.next (xS f);rcases vl f M with e|e <;> rw[e]at c g|-
 .exact⟨c,g,h.files,h.data,by have:=h.sets;omega,h.svcs⟩
 .refine⟨c,g,h.files,h.data,?_,h.svcs⟩;have:=h.sets;show(ins (fun x:ab=>x.u) f M.E).length<=_;rw[FX h.good.s2];split <;> omega
theorem Fw.svc(h:Fw a b d M)(f:ah):Fw a b (d+1) (gc (xT f) M).2:=by
 obtain⟨c,g⟩:=h.next (xT f);rcases vk f M with e|e <;> rw[e]at c g|-
 .exact⟨c,g,h.files,h.data,h.sets,by have:=h.svcs;omega⟩
 .refine⟨c,g,h.files,h.data,h.sets,?_⟩;have:=h.svcs;show(ins (fun x:ah=>x.C) f M.D).length<=_;rw[FX h.good.v2];split <;> omega
end
abbrev M4:=List ab×List ae×List ab×List ah
def m4(M:ak):M4:=(M.F,M.B,M.E,M.D)
theorem Om{a b d:Nat}{M:ak}(h:Fw a b d M){c:ai}(i:kL c){e f g:Nat}(j:Fw e f g (gc c M).2)(k:a<=e)(l:b<=f)(m:d<=g) :
  Ends (BN c M.F M.B M.E M.D) fun r=>∃N,r=m4 N/\Fw e f g N:=by
 refine⟨_,AV c i M h.good,?_⟩;cases decide ((gc c M).1=0)
 .exact⟨M,rfl,h.good,h.facts,Nat.le_trans h.files k,h.data,Nat.le_trans h.sets l,Nat.le_trans h.svcs m⟩
 .exact⟨_,rfl,j⟩
theorem lg{Z α:Type}{P:Z->Prop}{f:Nat->α->M4->(M4->Option Z)->(M4->Option Z)->Option Z}{k:M4->Option Z}(F:Nat->ak->Prop)(n0:Nat)(Q:α->Prop)
  (d:∀n M,n<=n0->F n M->Ends (k (m4 M)) P) (e:∀i x nx k n M,Q x->F n M->(∀N,F (n+1) N->Ends (nx (m4 N)) P)->Ends (f i x (m4 M) nx k) P) (l:List α) (t:l.length<=n0) (g:∀x∈l,Q x) {M:ak} (j:F 0 M) :
  Ends (forL l 0 f (m4 M) k) P:=by
 refine pm (fun i r m=>∃M,m=m4 M/\F i M/\(∀x∈r,Q x)/\i+r.length=l.length) (fun i s h=>?_) (fun i x r s nx h b=>?_) l 0 _ ⟨M,rfl,j,g,by omega⟩
 .obtain⟨M,rfl,c,_,a⟩:=h;exact d i M (by simp at a;omega) c
 .obtain⟨M,rfl,c,a,o⟩:=h;exact e i x nx k i M (a x (mem_cons_self ..)) c fun N p=>b _ ⟨N,rfl,p,fun y q=>a y (mem_cons_of_mem _ q),by simp only[length_cons]at o;omega⟩
theorem wM(m:ak)(g:GW m):Ends (GX m) (Fw 40 40 40):=by
 have D:=g.facts;have E:=g.files;have I:=g.sets;have J:=g.svcs;unfold GX;rw[eJ];refine pm (fun i r o=>o.length<=20/\o.length<=i/\i+r.length=m.F.length/\∀x∈o,kw x=0) (fun i o h=>?_) (fun i x r o nx h d=>?_) m.F 0 [] ⟨by simp,by simp,by simp,by simp⟩
 .obtain⟨w,_,_,A⟩:=h;refine Ends.call (pV o w) fun K v=>?_;refine Ends.call (Ba K (by have:=v.len;omega) v.ord) fun z hz=>?_;have L:=hz.len;have O:=v.len;have P:Fw 0 0 0 ⟨fW z,[],[],[]⟩:=by refine⟨⟨by simp only;omega,by simp,by simp,by simp,fun x hx=>A x (v.sub x (hz.sub x hx)),hz.srt,by simp,by simp[fG],by simp,by simp,by simp[fG],by simp,by simp[fG]⟩,by simp only;omega,by simp,by simp,by simp,by simp⟩
  rw[eJ,zg (by omega)];refine lg (F:=fun n M=>Fw n 0 0 M) (n0:=40) (Q:=fun f:ae=>Sm f.a) (fun n M p b=>?_) (fun i f nx k n M q b d=>?_) _ (by simp only[length_take];omega) (fun x hx=>g.fp x (mem_of_mem_take hx)) P
  .have e:Fw 40 0 0 M:=⟨b.good,b.facts,Nat.le_trans b.files p,b.data,b.sets,b.svcs⟩;show Ends (jp _ _) _;rw[eJ,zg (by omega)];refine lg (F:=fun n M=>Fw 40 n 0 M) (n0:=40) (Q:=fun f:ab=>Sm f.u) (fun n M p b=>?_) (fun i f nx k n M q b d=>?_) _ (by simp only[length_take];omega) (fun x hx=>g.sp x (mem_of_mem_take hx)) e
   .have e:Fw 40 40 0 M:=⟨b.good,b.facts,b.files,b.data,Nat.le_trans b.sets p,b.svcs⟩;show Ends (jp _ _) _;rw[eJ,zg (by omega)];refine lg (F:=fun n M=>Fw 40 40 n M) (n0:=40) (Q:=fun f:ah=>Sm f.a) (fun n M p b=>?_) (fun i f nx k n M q b d=>?_) _ (by simp only[length_take];omega) (fun x hx=>g.vp x (mem_of_mem_take hx)) e
    .exact⟨_,rfl,b.good,b.facts,b.files,b.data,b.sets,Nat.le_trans b.svcs p⟩
    .show Ends (call _ _) _;refine Ends.call (Om b (c:=xT f) ⟨by simp[Sm,xT],by simp[Sm,xT],q⟩ (b.svc f) (Nat.le_refl _) (Nat.le_refl _) (Nat.le_succ _)) ?_;rintro r ⟨N,rfl,j⟩;exact d N j
   .show Ends (call _ _) _;refine Ends.call (Om b (c:=xS f) ⟨by simp[Sm,xS],q,by simp[Sm,xS]⟩ (b.set f) (Nat.le_refl _) (Nat.le_succ _) (Nat.le_refl _)) ?_;rintro r ⟨N,rfl,j⟩;exact d N j
  .show Ends (eA _ _) _;rw[zg (by omega)];have j:Fw (n+1) 0 0 _:=b.put ⟨f.a,List.take ((min (f.G.length:Int) 3000).toNat) f.G,f.H⟩ (by simp only[length_take];omega);refine Ends.call (Om b (c:=ut ⟨f.a,List.take ((min (f.G.length:Int) 3000).toNat) f.G,f.H⟩) ⟨q,by simp[Sm,ut],by simp[Sm,ut]⟩ j (Nat.le_succ _) (Nat.le_refl _) (Nat.le_refl _)) ?_;rintro r ⟨N,rfl,j⟩;exact d N j
 .obtain⟨w,A,R,B⟩:=h;simp only[length_cons]at R;rw[yb,PR,zf,gU];cases C:(fY x.u&&(bif fY x.u then xZ x.Value else false))&&decide ((o.length:Int)<20)
  .exact d _ ⟨w,by omega,by omega,B⟩
  .simp only[Bool.and_eq_true,decide_eq_true_eq]at C;obtain⟨⟨s,t⟩,hb3⟩:=C;rw[s,cond_true]at t;rw[cond_true,zg (by simp only[length_append,length_cons,length_nil];omega)];refine d _ ⟨by simp only[length_append,length_cons,length_nil];omega,by simp only[length_append,length_cons,length_nil];omega,by omega,fun y l=>?_⟩;rcases mem_append.1 l with l|l
   .exact B y l
   .simp at l;subst l;unfold kw;rw[s,t];rfl
def up(b:Bool)(n:Int):Int:=bif b then n else 0
section
variable {A:Type} {key:A->ev}
end
section
variable {b:Nat} {m1:List (ev×ae)} {m2:List (ev×Int)} {m3:List (ev×ab)} {m4:List (ev×ah)} {M:ak}
end
theorem Se{M:ak}(a:Good M)(l:List ai)(b:∀c∈l,kL c):BA M l=some (uB l M):=by
 rw[Rh M a.fit l b];unfold mi;rw[(Ou M).2 a];rfl
theorem RI{M:ak}(b:Good M):∀(l:List ai),(uB l M).2=0->Good (uB l M).1/\(uB l M).1.F=M.F:=by
 intro l;induction l generalizing M with
 |nil=>intro _;exact⟨b,rfl⟩
 |cons c l d =>
  intro h;unfold uB at h|-;cases a:decide ((gc c M).1=0)with
  |false =>
   rw[a]at h;simp only[Bool.not_false,cond_true]at h;rw[h]at a;cases a
  |true =>
   rw[a]at h;simp only[Bool.not_true,cond_false]at h|-;have:=d (M6 b c) h;exact⟨this.1,this.2.trans (Pt c M)⟩
section
variable {A:Type} {key:A->ev}
end
theorem jQ{α:Type}(l:List α)(q:α->α->Bool)(c:∀x,q x x=true):∀(r:List α) (i:Nat),l.drop i=r->forL r i (fun i x (_:Unit) nx (_:Unit->Option Bool)=>eL l (i:Int) fun y=>bif !q x y then some false else nx ()) () (fun _=>some true)=some true
 |[],i,_=>rfl
 |x::r,i,a=>by
  have hi:i<l.length:=by
   rcases Nat.lt_or_ge i l.length with h|h
   .exact h
   .rw[drop_eq_nil_of_le h]at a;cases a
  have hx:l[i]=x:=by have:=drop_eq_getElem_cons hi;rw[a]at this;exact(List.cons.inj this).1.symm
  have b:l.drop (i+1)=r:=by
   have:=congrArg List.tail a;simpa using this
  unfold forL;simp only[mJ hi,hx,c,Bool.not_true,cond_false];exact jQ l q c r (i+1) b
def sf(x:al):ai:=bif decide (x.g=5)then⟨3,jf,x.x,iC⟩else bif decide (x.g=6)then⟨5,jf,mH,x.h⟩else⟨1,x.j,mH,iC⟩
def qV(x:al):ai:=⟨bif decide (x.g=5)then 3 else bif decide (x.g=6)then 5 else 1,x.j,x.x,x.h⟩
def eH(k:Int):Int:=bif decide (k=5)then 1 else bif decide (k=6)then 2 else 0
structure Ra(x:al):Prop where
 fp:Sm x.j.a
 sp:Sm x.x.u
 vp:Sm x.h.a
theorem uI(k:Int):ju k=some (eH k):=by
 unfold ju eH;cases decide (k=5) <;> cases decide (k=6) <;> rfl
theorem Hy(x:al):yA x=some (qV x):=by
 unfold yA qV;rw[uI,zf];unfold eH;cases decide (x.g=5) <;> cases decide (x.g=6) <;> rfl
theorem v8(x:al):mI (qV x)=mI (sf x):=by
 unfold mI qV sf;cases decide (x.g=5) <;> cases decide (x.g=6) <;> rfl
theorem wu(x:al):iR (qV x)=sf x:=by
 unfold iR qV sf;cases decide (x.g=5) <;> cases decide (x.g=6) <;> rfl
theorem wt(x:al):FQ (qV x)=true:=by
 unfold FQ qV;cases decide (x.g=5) <;> cases decide (x.g=6) <;> rfl
theorem A1(x:al):mF (qV x)=bif decide (mI (sf x)=0)&&!Ch (qV x) (sf x)then 2 else mI (sf x):=by unfold mF;rw[wt,wu,v8];rfl
theorem k5{x:al}(h:Ra x):kL (qV x):=⟨h.fp,h.sp,h.vp⟩
def sD(x:al):Int :=
 bif decide (x.g<1)||decide (6<x.g)then 1 else
 bif !decide (mI (sf x)=0)then mI (sf x)else
 bif !Ch (qV x) (sf x)||x.h.J then 2 else 0
theorem OW(x:al)(h:Ra x):CY x=some (sD x):=by
 unfold CY sD;rw[Hy];simp only[zf];rw[Rw _ (k5 h)];simp only[zf,uf,yq];rw[A1];unfold fg;cases (decide (x.g<1)||decide (6<x.g))
 .simp only[cond_false];by_cases a:mI (sf x)=0
  .simp only[a,decide_true,Bool.true_and,Bool.not_true,cond_false];cases Ch (qV x) (sf x) <;> cases x.h.J <;> rfl
  .simp only[decide_eq_false a,Bool.false_and,Bool.not_false,cond_true,cond_false]
 .rfl
def mW(c:UInt8):Bool:=(decide (48<=(c.toNat:Int))&&decide ((c.toNat:Int)<=57))||(decide (97<=(c.toNat:Int))&&decide ((c.toNat:Int)<=102))
def sA(s:ev):Bool:=s.all mW&&decide ((s.length:Int)=16)
theorem qH(s:ev):HZ s=some (sA s):=by
 unfold HZ;simp only[eJ];rw[yB mW (z:=false) (fun i x nx k=>by simp only[mW];rw[hZ,Bool.not_not])];simp only[qK];unfold sA;cases s.all mW <;> rfl
theorem qD(s:ev):G3 s=some (sA s):=by
 unfold G3;simp only[eJ];rw[yB mW (z:=false) (fun i c nx k=>by
  rw[hZ];congr 1;unfold mW;rw[Bool.eq_iff_iff];simp only[Bool.or_eq_true,Bool.and_eq_true,Bool.not_eq_true',decide_eq_true_eq,Bool.or_eq_false_iff,Bool.and_eq_false_iff,decide_eq_false_iff_not,Bool.not_eq_false'];omega)]
 simp only[qK];unfold sA;cases s.all mW <;> rfl
def ke(k:Int):Bool:=decide (1<=k)&&decide (k<=6)
def named(k:Int)(p:ev):Bool:=bif decide (k=6)then fY p else fS p
def pR(b:ev):ev:=gH (([114]:ev)++b)
def k4(b:ev):ev:=gH (([45]:ev)++b)
def oO(h:aa):Bool:=((!sA h.y)||((!decide (h.A=[]))&&(!decide (h.g=3))))||((decide (h.g=3)&&!decide (h.y=pR h.A))&&!decide (h.y=k4 h.A))
def xU(h:aa):Int :=
 bif !fY h.r then 5 else bif !ke h.g then 1 else bif !named h.g h.a then 5 else bif oO h then 2 else 0
structure qC(h:aa):Prop where
 p:Sm h.a
 b:Sm h.A
theorem yy(c:UInt8){b:ev}(h:Sm b):(([c]:ev)++b).length<=274877906944:=by unfold Sm at h;simp only[length_append,length_cons,length_nil];omega
theorem tY(h:aa)(c:qC h):Iz h=some (xU h):=by
 unfold Iz;rw[Sr,Sr,Tv _ c.p,qH,SC,SC];unfold Nr;simp only[zf,gU];rw[zg (fun _=>yy 114 c.b),zg (fun _=>yy 45 c.b)];unfold xU named ke;show(bif !fY h.r then _ else bif !(decide (1<=h.g)&&decide (h.g<=6))then _ else _)=_;cases fY h.r
 .rfl
 cases (decide (1<=h.g)&&decide (h.g<=6))
 .rfl
 simp only[Bool.not_true,cond_false];have d:((decide (h.g=6)&&!(bif decide (h.g=6)then fY h.a else false))||((!decide (h.g=6))&&!(bif ((!((decide (h.g=6))&&(!(bif decide (h.g=6)then fY h.a else false))))&&(!decide (h.g=6)))then fS h.a else false)))=!(bif decide (h.g=6)then fY h.a else fS h.a):=by cases decide (h.g=6) <;> cases fY h.a <;> cases fS h.a <;> rfl
 rw[d];cases (bif decide (h.g=6)then fY h.a else fS h.a)
 .rfl
 simp only[Bool.not_true,cond_false];unfold oO;change _=some (bif (((!sA h.y)||((!decide (h.A=[]))&&(!decide (h.g=3))))||((decide (h.g=3)&&!decide (h.y=pR h.A))&&!decide (h.y=k4 h.A)))then(2:Int)else 0);have e:((decide (h.g=3)&&(!decide (h.y=(bif decide (h.g=3)then gH (([114]:ev)++h.A)else []))))&&(!decide (h.y=(bif (decide (h.g=3)&&(!decide (h.y=(bif decide (h.g=3)then gH (([114]:ev)++h.A)else []))))then gH (([45]:ev)++h.A)else []))))=((decide (h.g=3)&&!decide (h.y=pR h.A))&&!decide (h.y=k4 h.A)):=by
  unfold pR k4;cases decide (h.g=3)
  .rfl
  .simp only[cond_true,Bool.true_and];cases f:decide (h.y=gH (([114]:ev)++h.A)) <;> rfl
 rw[e];cases ((!sA h.y)||((!decide (h.A=[]))&&(!decide (h.g=3)))) <;> cases ((decide (h.g=3)&&!decide (h.y=pR h.A))&&!decide (h.y=k4 h.A)) <;> rfl
def jn(a b:aa):Int:=bif !decide (fb a.r b.r=0)then fb a.r b.r else bif !decide (eH a.g-eH b.g=0)then eH a.g-eH b.g else fb a.a b.a
theorem Rf(a b:ev):uS a b=some (fb a b):=rfl
theorem iN(k:Int):0<=eH k/\eH k<=2:=by
 unfold eH;cases decide (k=5) <;> cases decide (k=6) <;> decide
theorem D0(k:Int):Ib k=some (eH k+1):=by
 unfold Ib eH;cases decide (k=5) <;> cases decide (k=6) <;> rfl
theorem vN(h:aa):B0 h=some ⟨eH h.g+1,h.a⟩:=by
 unfold B0;rw[D0];rfl
theorem Mk(a b:aa):GM a b=some (jn a b):=by
 unfold GM jn;simp only[Rf,zf,vN];have c:=iN a.g;have d:=iN b.g;cases decide (fb a.r b.r=0)
 .rfl
 simp only[Bool.not_true,cond_false];rw[show IntKind.i64.wrap (eH a.g+1-(eH b.g+1))=eH a.g-eH b.g by rw[gj (by omega) (by omega)];omega,show decide (eH a.g+1=eH b.g+1)=decide (eH a.g-eH b.g=0)by rw[decide_eq_decide];omega];cases decide (eH a.g-eH b.g=0) <;> rfl
theorem VF(a b c:Int):yI [a,b,c]=some (bif !decide (a=0)then a else bif !decide (b=0)then b else c):=by
 unfold yI;simp only[eJ,forL];cases decide (a=0)
 .rfl
 cases decide (b=0)
 .rfl
 by_cases h:c=0
 .subst h;rfl
 .rw[decide_eq_false h];rfl
theorem Me(a b:aa):uk a b=some (jn a b):=by unfold uk jn;have c:=iN a.g;have d:=iN b.g;simp only[Rf,zf,uI];rw[show IntKind.i64.wrap (eH a.g-eH b.g)=eH a.g-eH b.g from gj (by omega) (by omega)];simp only[VF,zf]
def iq{α:Type}(e:Nat->α->Int):Nat->List α->Int
 |_,[]=>0
 |i,x::l=>bif !decide (e i x=0)then e i x else iq e (i+1) l
section
variable {α:Type}
theorem O3{f:Nat->α->Unit->(Unit->Option Int)->(Unit->Option Int)->Option Int}{K:Unit->Option Int}(e:Nat->α->Int)(L:List α)
  (c:∀i x nx k,i<L.length->x∈L->f i x () nx k=bif !decide (e i x=0)then some (e i x)else nx ()) :
  ∀(l:List α) (i:Nat),L.drop i=l->forL l i f () K=bif !decide (iq e i l=0)then some (iq e i l)else K ()
 |[],i,_=>rfl
 |x::l,i,a=>by
  have hi:i<L.length:=by
   rcases Nat.lt_or_ge i L.length with h|h
   .exact h
   .rw[drop_eq_nil_of_le h]at a;cases a
  have hx:x∈L:=by
   have:x∈L.drop i:=by rw[a];exact mem_cons_self ..
   exact mem_of_mem_drop this
  have b:L.drop (i+1)=l:=by
   have:=congrArg List.tail a;simpa using this
  unfold forL iq;rw[c _ _ _ _ hi hx,O3 e L c l (i+1) b];by_cases d:e i x=0
  .simp only[d,decide_true,Bool.not_true,cond_false]
  .simp only[decide_eq_false d,Bool.not_false,cond_true]
theorem M5{β:Type}{Z:Type}{f:Nat->α->List β->(List β->Option Z)->(List β->Option Z)->Option Z}{K:List β->Option Z}(q:α->Bool)(g:α->β)(N:Nat)
  (a:∀i x o nx k,o.length<N->f i x o nx k=bif q x then nx (o++[g x])else nx o) :
  ∀(l:List α) (i:Nat) (o:List β),o.length+l.length<=N->forL l i f o K=K (o++(l.filter q).map g)
 |[],i,o,_=>by simp[forL]
 |x::l,i,o,c=>by
  simp only[length_cons]at c;unfold forL;rw[a _ _ _ _ _ (by omega)];cases b:q x
  .rw[cond_false,M5 q g N a l (i+1) o (by omega),filter_cons_of_neg (by simp[b])]
  .rw[cond_true,M5 q g N a l (i+1) _ (by simp only[length_append,length_cons,length_nil];omega),filter_cons_of_pos b,map_cons,append_assoc];rfl
end
def hz:aa:=aa.mk [] 0 [] [] []
def iu(L:List aa)(i:Nat)(h:aa):Int:=bif !decide (xU h=0)then xU h else bif decide (0<(i:Int))&&decide (0<=jn (L.getD (i-1) hz) h)then 7 else 0
def LW(t:Int)(p:ev)(o:aa):Bool:=decide (eH o.g=t)&&decide (o.a=p)
def pW(a b:aa):Bool:=(decide (a.g=2)&&decide (b.g=2))&&decide (a.y=b.y)
def cf(o:Option aa)(h:aa):Bool:=o.isSome&&!pW (o.getD hz) h
def se:List aa->List aa->Int
 |_,[]=>0
 |r,h::l=>bif cf (r.find? (LW (eH h.g) h.a)) h then 11 else se (h::r) l
def jG(k:aj):Int:=bif decide (5000<(k.q.length:Int))then 4 else bif !decide (iq (iu k.q) 0 k.q=0)then iq (iu k.q) 0 k.q else se [] k.q
theorem O2{A:Type}[DecidableEq A](b:Int->ev->A)(c:∀t p d j,b t p=b d j↔t=d/\p=j)
  {f:Nat->aa->List (A×aa)->(List (A×aa)->Option Int)->(List (A×aa)->Option Int)->Option Int}
  (n:∀i h m nx k,m.length<=5000->f i h m nx k=bif cf (eG m (b (eH h.g) h.a)) h then some 11 else nx (eM m (b (eH h.g) h.a) h)) :
  ∀(l:List aa) (i:Nat) (m:List (A×aa)) (r:List aa),(∀t p,eG m (b t p)=r.find? (LW t p))->m.length+l.length<=5000->forL l i f m (fun _=>some 0)=some (se r l)
 |[],i,m,r,_,_=>rfl
 |h::l,i,m,r,o,s=>by
  simp only[length_cons]at s;unfold forL se;rw[n _ _ _ _ _ (by omega),o];cases cf (r.find? (LW (eH h.g) h.a)) h
  .rw[cond_false,cond_false];refine O2 b c n l (i+1) _ (h::r) (fun t p=>?_) ?_
   .rw[yG];by_cases e:b (eH h.g) h.a=b t p
    .obtain⟨u,v⟩:=(c _ _ _ _).1 e;rw[if_pos e,find?_cons_of_pos (by simp[LW,u,v])]
    .rw[if_neg e,find?_cons_of_neg (by
      intro q;simp only[LW,Bool.and_eq_true,decide_eq_true_eq]at q;exact e ((c _ _ _ _).2 q)),o]
   .rw[F5];split <;> omega
  .rfl
theorem li{L:List aa}{i:Nat}(hi:i<L.length)(a:L.length<=5000):decide (0<(i:Int))=true->0<=IntKind.i64.wrap ((i:Int)-1)/\IntKind.i64.wrap ((i:Int)-1)<(L.length:Int):=by intro h;have h:=of_decide_eq_true h;rw[yp i (by omega) (by omega)];omega
theorem rj{L:List aa}{i:Nat}(hi:i<L.length)(a:L.length<=5000)(h:decide (0<(i:Int))=true):(IntKind.i64.wrap ((i:Int)-1)).toNat=i-1:=by have h:=of_decide_eq_true h;rw[yp i (by omega) (by omega)];rfl
theorem OV(k:aj)(f:∀h∈k.q,qC h):Gl k=some (jG k):=by
 unfold Gl jG;by_cases d:5000<(k.q.length:Int)
 .rw[decide_eq_true d];rfl
 rw[decide_eq_false d];simp only[cond_false,eJ];have c:k.q.length<=5000:=by omega
 refine(O3 (iu k.q) k.q (fun i h nx j hi l=>?_) k.q 0 rfl).trans ?_
 .rw[tY h (f h l),zf,zg (li hi c)];unfold iu;by_cases e:xU h=0
  .simp only[e,decide_true,Bool.not_true,cond_false];cases n:decide (0<(i:Int))
   .rfl
   .rw[yH,rj hi c n];change call (GM (k.q.getD (i-1) hz) h) _=_;rw[Mk,zf,Bool.true_and];cases decide (0<=jn (k.q.getD (i-1) hz) h) <;> rfl
  .simp only[decide_eq_false e,Bool.not_false,cond_true]
 .cases decide (iq (iu k.q) 0 k.q=0)
  .rfl
  simp only[Bool.not_true,cond_false];refine O2 (fun t p=>aq.mk (t+1) p) (fun t p o r=>?_) (fun i h m nx j s=>?_) k.q 0 [] [] (fun _ _=>rfl) (by simpa using c)
  .rw[aq.mk.injEq];constructor
   .rintro⟨a,b⟩;exact⟨by omega,b⟩
   .rintro⟨a,b⟩;exact⟨by omega,b⟩
  .simp only[vN,zf,Nh,gU];rw[zg (by have:=F5 m (aq.mk (eH h.g+1) h.a) h;split at this <;> omega)];unfold fK cf pW hz;generalize eG m (aq.mk (eH h.g+1) h.a)=q;cases q <;> rfl
theorem Fe(a b c d e:Int):ig [a,b,c,d,e]=some (fg a (fg b (fg c (fg d e)))):=Nf a _ _ (Nf b _ _ (FM c d e))
theorem FB(A K:Bool)(s r m:ev):(A||((K&&!decide (s=(bif (!A&&K)then r else [])))&&!decide (s=(bif (!A&&(K&&!decide (s=(bif (!A&&K)then r else []))))then m else []))))=(A||((K&&!decide (s=r))&&!decide (s=m))):=by
 cases A
 .cases K
  .rfl
  .simp only[Bool.not_false,Bool.true_and,cond_true,Bool.false_or];cases decide (s=r) <;> rfl
 .rfl
theorem Ea(A B C D E:Bool)(nx:Option Int):(bif !decide ((fg (bif !A then 5 else 0) (fg (bif !B then 1 else 0) (fg (bif !C then 5 else 0) (fg (bif D then 2 else 0) (bif E then 7 else 0)))))=0)then some (fg (bif !A then 5 else 0) (fg (bif !B then 1 else 0) (fg (bif !C then 5 else 0) (fg (bif D then 2 else 0) (bif E then 7 else 0)))))else nx) =
  bif !decide ((bif !decide ((bif !A then 5 else bif !B then 1 else bif !C then 5 else bif D then 2 else 0:Int)=0)then(bif !A then 5 else bif !B then 1 else bif !C then 5 else bif D then 2 else 0:Int)else bif E then 7 else 0)=0)then some (bif !decide ((bif !A then 5 else bif !B then 1 else bif !C then 5 else bif D then 2 else 0:Int)=0)then(bif !A then 5 else bif !B then 1 else bif !C then 5 else bif D then 2 else 0:Int)else bif E then 7 else 0)else nx:=by
 cases A <;> cases B <;> cases C <;> cases D <;> cases E <;> rfl
theorem BI(k:aj)(j:∀h∈k.q,qC h):pt k=some (jG k):=by
 unfold pt jG;by_cases e:5000<(k.q.length:Int)
 .rw[decide_eq_true e];rfl
 rw[decide_eq_false e];simp only[cond_false,eJ];have c:k.q.length<=5000:=by omega
 refine(O3 (iu k.q) k.q (fun i h nx l hi n=>?_) k.q 0 rfl).trans ?_
 .have d:=j h n;rw[qD,zf,zg (fun _=>yy 114 d.b),CO,CO,gU,zg (fun _=>yy 45 d.b),gU,CX _ d.p,yb,yb];simp only[zf,uf];rw[zg (li hi c),zg (li hi c)];have s:∀(g:Bool) (F:Bool->Option Int),(bif g then F (fY h.a)else F (fS h.a))=F (bif g then fY h.a else fS h.a):=fun g F=>by cases g <;> rfl
  rw[FB];have u:(((!sA h.y)||((!decide (h.A=[]))&&(!decide (h.g=3))))||((decide (h.g=3)&&!decide (h.y=gH (([114]:ev)++h.A)))&&!decide (h.y=gH (([45]:ev)++h.A))))=oO h:=by unfold oO pR k4;exact Eq.refl _
  rw[u];have f:∀F:Int->Option Int,callG (decide (0<(i:Int))) (uk (k.q.getD ((IntKind.i64.wrap ((i:Int)-1)).toNat) hz) h) 0 F=F (bif decide (0<(i:Int))then jn (k.q.getD (i-1) hz) h else 0):=by
   intro F;cases v:decide (0<(i:Int))
   .rfl
   .rw[yH,rj hi c v,Me];rfl
  change (bif decide (h.g=6)then callG (decide (0<(i:Int))) (uk (k.q.getD ((IntKind.i64.wrap ((i:Int)-1)).toNat) hz) h) 0 _ else callG (decide (0<(i:Int))) (uk (k.q.getD ((IntKind.i64.wrap ((i:Int)-1)).toNat) hz) h) 0 _)=_;rw[f,f];simp only[Fe,zf];rw[s (decide (h.g=6)) (fun nm=>bif !decide ((fg (bif !fY h.r then 5 else 0) (fg (bif (decide (h.g<1)||decide (6<h.g))then 1 else 0) (fg (bif !nm then 5 else 0) (fg (bif oO h then 2 else 0) (bif (decide (0<(i:Int))&&decide (0<=(bif decide (0<(i:Int))then jn (k.q.getD (i-1) hz) h else 0)))then 7 else 0)))))=0)then some (fg (bif !fY h.r then 5 else 0) (fg (bif (decide (h.g<1)||decide (6<h.g))then 1 else 0) (fg (bif !nm then 5 else 0) (fg (bif oO h then 2 else 0) (bif (decide (0<(i:Int))&&decide (0<=(bif decide (0<(i:Int))then jn (k.q.getD (i-1) hz) h else 0)))then 7 else 0)))))else nx ())];have w:(decide (0<(i:Int))&&decide (0<=(bif decide (0<(i:Int))then jn (k.q.getD (i-1) hz) h else 0)))=(decide (0<(i:Int))&&decide (0<=jn (k.q.getD (i-1) hz) h)):=by cases decide (0<(i:Int)) <;> rfl
  rw[w];have x:(decide (h.g<1)||decide (6<h.g))=!ke h.g:=by unfold ke;rw[Bool.eq_iff_iff];simp only[Bool.or_eq_true,Bool.not_eq_true',decide_eq_true_eq,Bool.and_eq_false_iff,decide_eq_false_iff_not];omega
  rw[x];rw[Ea];unfold iu xU named;exact Eq.refl _
 .cases decide (iq (iu k.q) 0 k.q=0)
  .rfl
  simp only[Bool.not_true,cond_false];refine O2 (fun t p=>ar.mk t p) (fun t p z B=>?_) (fun i h m nx l C=>?_) k.q 0 [] [] (fun _ _=>rfl) (by simpa using c)
  .rw[ar.mk.injEq]
  .simp only[uI,zf];rw[zg (by have:=F5 m (ar.mk (eH h.g) h.a) h;split at this <;> omega)];unfold fK cf pW hz;generalize eG m (ar.mk (eH h.g) h.a)=q;cases q with
   |none=>rfl
   |some o =>
    simp only[Option.isSome_some,Option.getD_some,Bool.true_and];cases decide (o.g=2) <;> cases decide (h.g=2) <;> cases decide (o.y=h.y) <;> rfl
theorem Fj(l:List aa):IW l l=some true:=by unfold IW;simp only[decide_true,Bool.not_true,cond_false,eJ];exact jQ l (fun a b=>(decide (a.r=b.r))&&((decide (a.g=b.g))&&((decide (a.a=b.a))&&((decide (a.y=b.y))&&(decide (a.A=b.A)))))) (fun x=>by simp) l 0 rfl
theorem td:Na=some true:=rfl
structure Lw where
 f:ev->Option ae
 s:ev->Option ab
 v:ev->Option ah
def B7(M:ak):Lw:=⟨ye M.B,wk M.E,AB M.D⟩
def Qr(f:ae):ev:=bif f.H then pR f.G else k4 f.G
def Td(s:ab):ev:=k4 s.Value
def Qq(s:ah):ev:=bif s.I then gH (([97]:ev)++s.a)else k4 s.a
structure Sz(L:Lw):Prop where
 f:∀k x,L.f k=some x->Sm x.G/\x.a=k
 s:∀k x,L.s k=some x->Sm x.Value/\x.u=k
 v:∀k x,L.v k=some x->Sm x.a/\x.C=k
theorem Sz.good{M:ak}(h:Good M):Sz (B7 M) where
 f k x hx:=by obtain⟨a,b⟩:=qN hx;have:=(Nd (h.g1 x a)).2;exact⟨by unfold Sm;omega,b⟩
 s k x hx:=by obtain⟨a,b⟩:=qN hx;have:=mQ (oy (h.s1 x a)).2;exact⟨by unfold Sm;omega,b⟩
 v k x hx:=by obtain⟨a,b⟩:=qN hx;have:=Gm (kv (h.v1 x a)).2;exact⟨by unfold Sm;omega,b⟩
def GU(L:Lw)(p:aq):Option ev:=bif decide (p.Q=2)then(L.s p.P).map Td else bif decide (p.Q=3)then(L.v p.P).map Qq else(L.f p.P).map Qr
def rm(h:aa):aq:=⟨eH h.g+1,h.a⟩
def J9(L:Lw)(h:aa):Int:=match GU L (rm h)with
 |none=>3
 |some s=>bif decide (s=h.y)then 1 else 2
def uo(x:al):ev:=bif decide (x.g=5)then x.x.u else bif decide (x.g=6)then x.h.C else x.j.a
def rl(x:al):aq:=⟨eH x.g+1,uo x⟩
def D8(x:al):ev:=bif decide (x.g=5)then Td x.x else bif decide (x.g=6)then Qq x.h else Qr x.j
def mD(o:ev)(x:al):aa:=⟨o,x.g,uo x,D8 x,bif decide (x.g=3)then x.j.G else []⟩
structure Mb(x:al):Prop where
 d:Sm x.j.G
 s:Sm x.x.Value
 v:Sm x.h.a
section
variable {A:Type}
def xP(pr:A->Option Bool)(s:List A):Option Int :=
 jp (S:=Unit) (fun _=>some (-1)) fun a =>
 forL s 0 (fun i h _ nx _=>call (pr h) fun r=>bif r then some (i:Int)else nx ()) () (fun _=>a ())
def wx(p:A->Bool)(l:List A):Int:=match l.findIdx? p with|some i=>(i:Int)|none=>-1
theorem BG{pr:A->Option Bool}{p:A->Bool}(l:List A)(h:∀x∈l,pr x=some (p x)):xP pr l=some (wx p l):=by
 unfold xP jp;have:∀(b:List A) (i:Nat),(∀x∈b,pr x=some (p x))->forL b i (fun i h _ nx _=>call (pr h) fun r=>bif r then some (i:Int)else nx ()) () (fun _=>some (-1))=some (match b.findIdx? p with|some j=>((i+j:Nat):Int)|none=>-1):=by
  intro b;induction b with
  |nil=>intro i _;rfl
  |cons x b c =>
   intro i a;unfold forL;show call (pr x) _=_;rw[a x (by simp),zf,findIdx?_cons];cases p x with
   |true=>rfl
   |false =>
    rw[cond_false];refine(c (i+1) fun y d=>a y (by simp[d])).trans ?_;cases b.findIdx? p with
    |none=>rfl
    |some j =>
     show some (((i+1+j:Nat):Int))=some (((i+(j+1):Nat):Int));rw[show i+1+j=i+(j+1)by omega]
 refine(this l 0 h).trans ?_;unfold wx;cases l.findIdx? p <;> simp
def wS(d:A)(c:A->Option Bool)(a:List A)(t:Int)(nx b:Int->Option Int):Option Int :=
 bif decide (t<((List.take a.length a).length:Int))then
  eA (0<=t/\t<(a.length:Int)) <|
  call (c (a.getD (t.toNat:Nat) d)) fun r=>bif r then some t else nx (IntKind.i64.wrap (t+1))
 else b t
def wP(d:A)(b:A->Option Bool)(c:List A):Option Int :=
 jp (S:=Unit) (fun _=>some (-1)) fun a=>loopN ff (wS d b c) 0 (fun _=>a ())
theorem wO{d:A}{a:A->Option Bool}{p:A->Bool}(l:List A)(o:l.length<=1073741824)(h:∀x∈l,a x=some (p x)):wP d a l=some (wx p l):=by
 obtain⟨N,b⟩:∃N,ff=N:=⟨_,rfl⟩;have m:1099511627776<=N:=b ▸ qM;unfold wP;rw[b];clear b;simp only[eJ];have key:=pq (f:=wS d a l) (k:=fun _=>some (-1)) (fun t=>0<=t/\t<=l.length) (fun t=>((l.length:Int)-t).toNat) (fun t=>some (match (l.drop t.toNat).findIdx? p with|some j=>t+(j:Int)|none=>-1)) (fun t nx hi c=>?_) N 0 ⟨by omega,by omega⟩ (by omega)
 .rw[key];unfold wx;simp only[Int.toNat_zero,drop_zero];cases l.findIdx? p <;> simp
 .obtain⟨n,q⟩:=hi;obtain⟨i,rfl⟩:=Int.eq_ofNat_of_zero_le n;unfold wS;rw[take_length];simp only[Int.toNat_natCast];by_cases e:i<l.length
  .rw[decide_eq_true (by omega),cond_true,zg (by omega)];have g:l.getD i d=l[i]:=by rw[getD_eq_getElem?_getD,getElem?_eq_getElem e];rfl
   rw[g,h _ (getElem_mem e),zf,drop_eq_getElem_cons e,findIdx?_cons];cases p l[i]with
   |true=>simp
   |false =>
    rw[cond_false,fw i (by omega),c _ ⟨by omega,by omega⟩ (by omega)];simp only[Int.toNat_natCast,Bool.false_eq_true,if_false];cases (l.drop (i+1)).findIdx? p with
    |none=>rfl
    |some j=>simp only[Option.map_some];congr 1;omega
  .rw[decide_eq_false (by omega),cond_false,drop_eq_nil_of_le (by omega)];rfl
def LN{Z:Type}(d:A)(b:A->Option Bool)(n:Nat)(s:Int×Int×List A)(nx a:Int×Int×List A->Option Z):Option Z :=
 match s with
 |(i,j,o) =>
  bif decide (j<((List.take n o).length:Int))then
   eA (0<=j/\j<(n:Int)) <|
   eA (j.toNat<o.length) <|
   call (b (o.getD (j.toNat:Nat) d)) fun r =>
   bif !r then
    eA (0<=i/\i<(n:Int)) <|
    eA (i.toNat<o.length) <|
    nx (IntKind.i64.wrap (i+1),IntKind.i64.wrap (j+1),List.set o (i.toNat:Nat) (o.getD (j.toNat:Nat) d))
   else
   nx (i,IntKind.i64.wrap (j+1),o)
  else
  a (i,j,o)
def A4{Z:Type}(g:Nat->List A->Z)(d:A)(n:Nat)(s:Int×List A):Option Z :=
 match s with
 |(i,o) =>
  eA (0<=i/\i<=(n:Int)) <|
  eA (0<=i/\i<=(n:Int)) <|
  some (g i.toNat (List.take i.toNat o++List.replicate (n-i.toNat) d++List.drop (i.toNat+(n-i.toNat)) o))
def Fp{Z:Type}(g:Nat->List A->Z)(d:A)(c:A->Option Bool)(e:Option Int)(a:List A):Option Z :=
 call e fun r =>
 bif decide (r=(-1))then some (g a.length a)
 else
 jp (A4 g d a.length) fun b =>
 loopN ff (LN d c a.length) (r,IntKind.i64.wrap (r+1),a) (fun s=>match s with
  |(i,j,o)=>b (i,o))
theorem mT(l:List A)(i:Nat)(x:A)(h:i<l.length):(l.set i x).take (i+1)=l.take i++[x]:=CK l i x h
theorem A5{Z:Type}(g:Nat->List A->Z){d:A}{t:A->Option Bool}{p:A->Bool}(l:List A)(G:l.length<=1073741824)(h:∀x∈l,t x=some (p x)):Ends (Fp g d t (some (wx p l)) l) fun z=>∃i o,z=g i o/\List.take i o=l.filter fun x=>!p x:=by
 obtain⟨N,m⟩:∃N,ff=N:=⟨_,rfl⟩;have B:1099511627776<=N:=m ▸ qM;unfold Fp;rw[m,zf];clear m;unfold wx;cases n:l.findIdx? p with
 |none =>
  rw[findIdx?_eq_none_iff]at n;simp only[decide_true,cond_true];exact⟨_,rfl,_,_,rfl,by rw[take_length,filter_eq_self.2 (fun x hx=>by rw[n x hx];rfl)]⟩
 |some k =>
  obtain⟨C,D,E⟩:=findIdx?_eq_some_iff_getElem.1 n;have:decide ((k:Int)=-1)=false:=decide_eq_false (by omega);simp only[this,cond_false,eJ];rw[fw k (by omega)];generalize F:(fun s:Int×Int×List A=>match s with|(i,j,o)=>A4 g d l.length (i,o))=K;have q:∀i j o,K (i,j,o)=A4 g d l.length (i,o):=fun i j o=>by rw[<-F]
  refine OO (fun(s:Int×Int×List A)=>∃i j:Nat,s.1=i/\s.2.1=j/\i<j/\j<=l.length/\s.2.2.length=l.length/\s.2.2.take i=(l.take j).filter (fun x=>!p x)/\s.2.2.drop j=l.drop j) (fun(s:Int×Int×List A)=>((l.length:Int)-s.2.1).toNat) (fun s nx hi a=>?_) N _ ⟨k,k+1,rfl,rfl,by omega,by omega,rfl,?_,rfl⟩ (by simp only;omega)
  .obtain⟨i,j,u,v,H,I,c,e,f⟩:=hi;obtain⟨si,J,o⟩:=s;simp only at u v c e f a;subst u;subst v;unfold LN;simp only;rw[take_of_length_le (by omega),c];by_cases b:j<l.length
   .rw[decide_eq_true (by omega),cond_true,zg (by omega),zg (by omega)]
    have r:o.getD ((j:Int).toNat) d=l[j]:=by
     rw[Int.toNat_natCast,getD_eq_getElem?_getD];have:(o.drop j)[0]?=(l.drop j)[0]?:=by rw[f]
     rw[getElem?_drop,getElem?_drop,Nat.add_zero]at this;rw[this,getElem?_eq_getElem b];rfl
    rw[r,h _ (getElem_mem b),zf];have w:(l.take (j+1)).filter (fun x=>!p x)=(l.take j).filter (fun x=>!p x)++if (!p l[j])=true then [l[j]]else []:=by rw[take_add_one,getElem?_eq_getElem b,filter_append];simp only[Option.toList_some,filter_cons,filter_nil]
    cases y:p l[j]with
    |true =>
     simp only[Bool.not_true,cond_false];rw[fw j (by omega)];refine a _ ⟨i,j+1,rfl,rfl,by omega,by omega,c,?_,?_⟩ ?_
     .simp only;rw[w,y,e];simp
     .simp only;rw[<-drop_drop,<-drop_drop,f]
     .simp only;omega
    |false =>
     simp only[Bool.not_false,cond_true];rw[zg (by omega),zg (by omega),fw i (by omega),fw j (by omega),Int.toNat_natCast];refine a _ ⟨i+1,j+1,rfl,rfl,by omega,by omega,by simp[c],?_,?_⟩ ?_
     .simp only;rw[mT _ _ _ (by omega),w,y,e];simp
     .simp only;rw[drop_set,if_pos (by omega),<-drop_drop,<-drop_drop,f]
     .simp only;omega
   .obtain rfl:j=l.length:=by omega
    rw[decide_eq_false (by omega),cond_false,q];unfold A4;simp only;rw[zg (by omega),zg (by omega)];refine⟨_,rfl,_,_,rfl,?_⟩;rw[Int.toNat_natCast,append_assoc,take_append_of_le_length (by rw[length_take];omega),take_take,Nat.min_self,e,take_length]
  .simp only;rw[take_add_one,getElem?_eq_getElem C,filter_append];simp only[Option.toList_some,filter_cons,D,Bool.not_true,Bool.false_eq_true,if_false,filter_nil,append_nil];refine(filter_eq_self.2 fun x hx=>?_).symm;obtain⟨j,b,rfl⟩:=getElem_of_mem hx;rw[length_take]at b;rw[getElem_take];have:=E j (by omega);simp at this;simp[this]
end
theorem j3{α β:Type}(f:α->β):∀{l:List α},(l.map f).Nodup->∀x∈l,∀y∈l,f x=f y->x=y
 |[],_,x,hx,_,_,_=>by cases hx
 |z::l,c,x,hx,y,d,e=>by
  rw[map_cons,nodup_cons]at c;rcases mem_cons.1 hx with b|b
  .rcases mem_cons.1 d with a|a
   .rw[b,a]
   .exact absurd (mem_map.2 ⟨y,a,by rw[<-e,b]⟩) c.1
  .rcases mem_cons.1 d with a|a
   .exact absurd (mem_map.2 ⟨x,b,by rw[e,a]⟩) c.1
   .exact j3 f c.2 x b y a e
abbrev leH(x y:aa):Prop:=¬ gR y.r y.g y.a x.r x.g x.a<0
theorem leH_le{x y:aa}:leH x y↔gR x.r x.g x.a y.r y.g y.a<=0:=by unfold leH;have:=BE x.r x.g x.a y.r y.g y.a;omega
theorem ld(k:Int):rk k=eH k+1:=by
 unfold rk eH;by_cases a:k=5
 .simp[a]
 .by_cases b:k=6 <;> simp[a,b]
theorem wo{l:List aa}(c:(l.map fun h=>(h.r,rm h)).Nodup){x y:aa}(hx:x∈l)(d:y∈l)(e:leH x y)(f:leH y x):x=y:=by
 have m:=leH_le.1 e;have n:=leH_le.1 f;have o:=BE x.r x.g x.a y.r y.g y.a;obtain⟨i,b,j⟩:=Pb (show gR x.r x.g x.a y.r y.g y.a=0 by omega);rw[ld,ld]at b;have k:(fun h:aa=>(h.r,rm h)) x=(fun h:aa=>(h.r,rm h)) y:=by simp only[rm];rw[i,j,b]
 exact j3 (fun h:aa=>(h.r,rm h)) c x hx y d k
def m8(l:List aa):List aa:=l.mergeSort fun x y=>decide (leH x y)
theorem HJ(l:List aa):(m8 l).Perm l:=mergeSort_perm l _
theorem m7(l:List aa):(m8 l).Pairwise leH:=by
 have:=pairwise_mergeSort (le:=fun x y:aa=>decide (leH x y)) (fun a b c d e=>by
  have f:=leH_le.1 (of_decide_eq_true d);have i:=leH_le.1 (of_decide_eq_true e);exact decide_eq_true (leH_le.2 (Nb f i))) (fun a b=>by
  have j:=BE a.r a.g a.a b.r b.g b.a;rw[Bool.or_eq_true];rcases Int.le_total (gR a.r a.g a.a b.r b.g b.a) 0 with h|h
  .exact .inl (decide_eq_true (leH_le.2 h))
  .exact .inr (decide_eq_true (leH_le.2 (by omega)))) l
 exact List.Pairwise.imp (fun h=>of_decide_eq_true h) this
section
variable {Z A S α:Type}
end
theorem A9(o:ev):I3 o=some ():=rfl
theorem CL(s o:ev)(h:(o++s).length<=274877906944):zp s o=some ((s.length:Int),o++s):=by unfold zp;rw[A9,zf,zg h]
theorem lJ(g a:ev)(l:List ev)(w:g.length<=1)(I:l.length<=8000000)(J:a.length+(l.map List.length).sum<=270000000000):uO (a::l) g=some (a++(l.map (g++·)).flatten):=by
 unfold uO;simp only[eJ];rw[sB (decide_eq_false (by simp;omega))];rcases l with _|⟨b,l⟩
 .rw[oM (decide_eq_true (show(([a]:List ev).length:Int)=1 from rfl))];show eL [a] ((0:Nat):Int) _=_;rw[mJ (by simp)];simp
 rw[sB (decide_eq_false (by simp;omega))];simp only[length_cons]at I;have r:∀(q:List ev) (i:Nat) (n:Nat) (k:Int->Option ev),n+(q.map List.length).sum<=274877906000 ->
   forL q i (fun y j f m z=>bif decide ((IntKind.i64.wrap (9223372036854775807-f))<(j.length:Int))then none else m (IntKind.i64.wrap (f+(j.length:Int)))) (n:Int) k=k ((n+(q.map List.length).sum:Nat):Int):=by
  intro q;induction q with
  |nil=>intro i n k h;simp[forL]
  |cons x q F =>
   intro i n k h;simp only[map_cons,sum_cons]at h;unfold forL;dsimp only;rw[gj (n:=9223372036854775807-(n:Int)) (by omega) (by omega),sB (decide_eq_false (by omega)),show(n:Int)+(x.length:Int)=((n+x.length:Nat):Int)by omega,mO _ (by omega)];rw[F (i+1) (n+x.length) k (by omega)];simp only[map_cons,sum_cons,Nat.add_assoc]
 have K:∀(q:List ev) (i:Nat) (o:ev),q.length<=8000000->o.length+(q.map List.length).sum+q.length<=274877906944 ->
   forL q i (fun A s e p B =>
    call (zp g e) fun t =>
    call (zp s t.2) fun u =>
    p u.2) o (fun e=>call (zN e) fun v=>some v)=some (o++(q.map (g++·)).flatten):=by
  intro q;induction q with
  |nil=>intro i o _ h;simp[forL,zN,zf]
  |cons x q F =>
   intro i o G h;simp only[map_cons,sum_cons,length_cons]at h G;unfold forL;dsimp only;rw[CL _ _ (by simp;omega),zf];dsimp only;rw[CL _ _ (by simp;omega),zf];dsimp only;rw[F _ _ (by omega) (by simp;omega)];simp
 simp only[map_cons,sum_cons]at J;have ol:∀E:Nat,E<=8000001->forL (a::b::l) 0 (fun y j f m z=>bif decide ((IntKind.i64.wrap (9223372036854775807-f))<(j.length:Int))then none else m (IntKind.i64.wrap (f+(j.length:Int)))) (E:Int) (fun f=>call (IQ f []) fun H =>
   eL (a::b::l) 0 fun C =>
   call (zp C []) fun D =>
   eA (0<=1/\1<=((a::b::l).length:Int)) <|
   forL (List.drop 1 (a::b::l)) 0 (fun A s e p B =>
    call (zp g e) fun t =>
    call (zp s t.2) fun u =>
    p u.2) D.2 (fun e=>call (zN e) fun v=>some v))=some (a++((b::l).map (g++·)).flatten):=fun E O=>by
  rw[r (a::b::l) 0 E _ (by simp;omega)];unfold IQ;rw[zg (by simp;omega),zf];show eL (a::b::l) ((0:Nat):Int) _=_;rw[mJ (by simp),getElem_cons_zero,CL _ _ (by simp;omega),zf,zg (by simp;omega)];dsimp only;rw[drop_succ_cons,drop_zero,K (b::l) 0 _ (by simp;omega) (by simp;omega)];simp
 rcases g with _|⟨c,_|⟨d,g⟩⟩
 .rw[sB (by decide)];exact ol 0 (by omega)
 .rw[oM (decide_eq_true (by simp))];have L:IntKind.i64.wrap (((a::b::l).length:Int)-1)=((l.length+1:Nat):Int):=by rw[length_cons,length_cons,gj (by omega) (by omega)];omega
  rw[L,zg (by omega)];have P:1<IntKind.i64.wrap (Int.tdiv 9223372036854775807 ((l.length+1:Nat):Int)):=by
   have G:Int.tdiv 9223372036854775807 ((l.length+1:Nat):Int)=((9223372036854775807 / (l.length+1):Nat):Int):=by rw[Int.tdiv_eq_ediv_of_nonneg (by decide)];rfl
   have Q:9223372036854775807 / 8000001<=9223372036854775807 / (l.length+1):=Nat.div_le_div_left (by omega) (by omega);have M:9223372036854775807 / (l.length+1)<=9223372036854775807:=Nat.div_le_self _ _;rw[G,mO _ M];have:2<=9223372036854775807 / 8000001:=by decide
   omega
  rw[sB (decide_eq_false (by simp only[length_singleton];omega))];have N:IntKind.i64.wrap (0+(IntKind.i64.wrap ((([c]:ev).length:Int)*((l.length+1:Nat):Int))))=((l.length+1:Nat):Int):=by rw[show(([c]:ev).length:Int)=1 from rfl,Int.one_mul,mO _ (by omega),Int.zero_add,mO _ (by omega)]
  rw[N];exact ol (l.length+1) (by omega)
 .simp at w
def jA(c:UInt8):List ev->List ev
 |[]=>[]
 |[x]=>[x]
 |x::y::r=>(x++[c])::jA c (y::r)
theorem xI(c:UInt8)(x:ev){l:List ev}(h:l≠[]):jA c (x::l)=(x++[c])::jA c l:=by
 cases l with
 |nil=>exact absurd rfl h
 |cons y r=>rfl
theorem TH(s:ev)(c:UInt8)(A:s.length<=17179869184):GI s [c]=some (jA c (zQ c s)):=by
 have p:=count_le_length (a:=c) (l:=s);have key:uT s [c] 1 (-1)=some (jA c (zQ c s)):=by
  unfold uT;obtain⟨N,h⟩:∃N,ff=N:=⟨_,rfl⟩;have q:1099511627776<=N:=h ▸ qM;rw[h];clear h;have f:min ((s.count c+1:Nat):Int) ((s.length+1:Nat):Int)=((s.count c+1:Nat):Int):=by omega
  simp only[eJ,oC,zf,show decide ((-1:Int)=0)=false from rfl,show decide ((-1:Int)<0)=true from rfl,show decide (([c]:ev)=[])=false from rfl,cond_true,cond_false];simp only[fw (s.count c) (by omega),fw s.length (by omega),f];rw[zg (by omega)];have r:IntKind.i64.wrap (((s.count c+1:Nat):Int)-1)=((s.count c:Nat):Int):=by rw[gj (by omega) (by omega)];omega
  simp only[r,Int.toNat_natCast];refine(pq (S:=ev×Int×List ev) (fun e=>∃i:Nat,e.2.1=i/\e.2.2.length=s.count c+1/\e.1.length<=s.length/\i+e.1.count c=s.count c) (fun e=>s.count c-e.2.1.toNat)
   (fun e=>some (e.2.2.take e.2.1.toNat++jA c (zQ c e.1))) ?_ N _ ⟨0,rfl,by simp,Nat.le_refl _,by simp⟩ (by simp only;omega)).trans ?_
  .rintro⟨t,B,o⟩ nx ⟨i,rfl,m,u,v⟩ g;simp only at m u v g|-;simp only[Ht,zf];by_cases hi:i<s.count c
   .have d:c∈t:=by rw[<-count_pos_iff];omega
    obtain⟨n,w,C⟩:=uK d;have D:=(CN c t).2.2 n;obtain⟨E,x⟩:=Nc d;rw[decide_eq_true (by omega),cond_true,MI d,decide_eq_false (by omega),cond_false];have j:IntKind.i64.wrap (((eW c t).1.length:Int)+1)=(((eW c t).1.length+1:Nat):Int):=fw _ (by omega);have k:IntKind.i64.wrap (((eW c t).1.length:Int)+(([c]:ev).length:Int))=(((eW c t).1.length+1:Nat):Int):=fw _ (by omega);simp only[j,k,fw i (by omega),Int.toNat_natCast];rw[zg (by omega),zg (by omega),zg (by omega)];have y:=SG d;have z:t.take ((eW c t).1.length+1)=(eW c t).1++[c]:=by
     have:∀a b:ev,(a++c::b).take (a.length+1)=a++[c]:=by intro a b;simp[take_append];exact take_of_length_le (by omega)
     exact(congrArg (List.take _) w).trans (this _ _)
    simp only[z,x];rw[g _ ⟨i+1,rfl,by simpa using m,by simp only;omega,by simp only;omega⟩ (by simp only[Int.toNat_natCast];omega)];simp only[Int.toNat_natCast];rw[CK o i _ (by omega)];congr 1;rw[show zQ c t=(eW c t).1::zQ c (eW c t).2.1 by rw[Ny,if_pos n],xI c _ (CS c _)];simp
   .obtain rfl:i=s.count c:=by omega
    rw[decide_eq_false (by omega),cond_false];have d:c∉t:=by rw[<-count_pos_iff];omega
    rw[zg (by omega),fw _ (by omega)];simp only[Int.toNat_natCast,length_set];rw[zg (by omega),CK o _ _ (by omega),C6 d];rfl
  .simp
 unfold GI;rw[show((([c]:ev).length:Nat):Int)=1 from rfl,key];rfl
section
variable {K V:Type} [DecidableEq K]
end
section
theorem nV{α:Type}[DecidableEq α]{a b:α}(y:List α)(h:b≠a):(b::y).idxOf a=y.idxOf a+1:=by simp[idxOf_cons,h,beq_false_of_ne h,cond]
variable {α β:Type} [DecidableEq α] [DecidableEq β]
def lc:List α->List α->Nat
 |[],_=>0
 |_::_,[]=>0
 |a::x,b::y=>if a=b then max (max (lc x (b::y)) (lc (a::x) y)) (1+lc x y)else max (lc x (b::y)) (lc (a::x) y)
termination_by x y=>x.length+y.length
theorem lE(y:List α):lc [] y=0:=by unfold lc;rfl
theorem MD(x:List α):lc x []=0:=by cases x <;> unfold lc <;> rfl
theorem CF(a:α)(x:List α)(b:α)(y:List α):lc (a::x) (b::y)=if a=b then max (max (lc x (b::y)) (lc (a::x) y)) (1+lc x y)else max (lc x (b::y)) (lc (a::x) y):=by rw[lc]
theorem Kq(x:List α)(b:α)(y:List α):lc x y<=lc x (b::y):=by
 cases x with
 |nil=>rw[lE];omega
 |cons a x=>rw[CF];split <;> omega
theorem QE(a:α)(x y:List α):lc x y<=lc (a::x) y:=by
 cases y with
 |nil=>rw[MD];omega
 |cons b y=>rw[CF];split <;> omega
theorem wq(a:α)(x:List α):∀y:List α,lc (a::x) y<=1+lc x y
 |[]=>by rw[MD];omega
 |b::y=>by
  have:=wq a x y;have:=Kq x b y;rw[CF];split <;> omega
theorem Oy(a:α)(x:List α):∀y:List α,lc (a::x) y=if y.idxOf a<y.length then max (lc x y) (1+lc x (y.drop (y.idxOf a+1)))else lc x y
 |[]=>by simp[MD]
 |b::y=>by
  have c:=Oy a x y;have d:=wq a x y;have f:=Kq x b y;by_cases e:a=b
  .subst e;rw[CF,if_pos rfl,idxOf_cons_self,if_pos (by simp)];simp only[Nat.zero_add,drop_succ_cons,drop_zero];omega
  .have hi:(b::y).idxOf a=y.idxOf a+1:=nV y (Ne.symm e);rw[CF,if_neg e,hi,c];simp only[length_cons,drop_succ_cons];by_cases h:y.idxOf a<y.length
   .rw[if_pos h,if_pos (by omega)];omega
   .rw[if_neg h,if_neg (by omega)];omega
theorem rJ(x:List α):∀y:List α,lc x y<=x.length:=by
 induction x with
 |nil=>intro y;rw[lE];exact Nat.zero_le _
 |cons a x b=>intro y;have:=wq a x y;have:=b y;simp only[length_cons];omega
def gr:List α->List α->Nat->Nat->List (Nat×Nat)
 |[],_,_,_=>[]
 |a::x,y,i,j=>if y.idxOf a<y.length/\1+lc x (y.drop (y.idxOf a+1))=lc (a::x) y then(i,j+y.idxOf a)::gr x (y.drop (y.idxOf a+1)) (i+1) (j+y.idxOf a+1)else gr x y (i+1) j
theorem AR(a:α)(x y:List α)(i j:Nat):gr (a::x) y i j=if y.idxOf a<y.length/\1+lc x (y.drop (y.idxOf a+1))=lc (a::x) y then(i,j+y.idxOf a)::gr x (y.drop (y.idxOf a+1)) (i+1) (j+y.idxOf a+1)else gr x y (i+1) j:=rfl
theorem rP:∀(x y:List α) (i j:Nat),lc x y=0->gr x y i j=[]
 |[],_,_,_,_=>rfl
 |a::x,y,i,j,h=>by have:=QE a x y;unfold gr;rw[if_neg (by omega)];exact rP x y (i+1) j (by omega)
theorem AG(a:α)(x y:List α)(h:¬ (y.idxOf a<y.length/\1+lc x (y.drop (y.idxOf a+1))=lc (a::x) y)):lc (a::x) y=lc x y:=by
 have:=Oy a x y;by_cases b:y.idxOf a<y.length
 .rw[if_pos b]at this;have c:¬ 1+lc x (y.drop (y.idxOf a+1))=lc (a::x) y:=fun e=>h ⟨b,e⟩;omega
 .rw[if_neg b]at this;exact this
theorem AF(a:α)(x y:List α)(b:y.idxOf a<y.length):1+lc x (y.drop (y.idxOf a+1))=lc (a::x) y↔lc (a::x) y<=1+lc x (y.drop (y.idxOf a+1)):=by have:=Oy a x y;rw[if_pos b]at this;omega
inductive Up(x y:List α):Nat->Nat->List (Nat×Nat)->Prop
 |nil (i j:Nat):Up x y i j []
 |cons {i j p q:Nat} {l:List (Nat×Nat)} (h1:i<=p) (h2:j<=q) (hp:p<x.length) (hq:q<y.length) (he:x[p]=y[q]) (hl:Up x y (p+1) (q+1) l):Up x y i j ((p,q)::l)
theorem Up.mono{x y:List α}{i j g k:Nat}{l:List (Nat×Nat)}(h:Up x y i j l)(m:g<=i)(n:k<=j):Up x y g k l:=by
 cases h with
 |nil=>exact .nil _ _
 |cons a b c d e f=>exact .cons (by omega) (by omega) c d e f
theorem wG(X Y:List α):∀(x y:List α) (i j:Nat),x=X.drop i->y=Y.drop j->Up X Y i j (gr x y i j)
 |[],_,i,j,_,_=>.nil i j
 |a::x,y,i,j,hx,c=>by
  have d:i<X.length:=by
   apply Nat.lt_of_not_le;intro h;rw[drop_eq_nil_of_le h]at hx;cases hx
  have b:X[i]=a/\x=X.drop (i+1):=by
   rw[drop_eq_getElem_cons d]at hx;cases hx;exact⟨rfl,rfl⟩
  unfold gr;split
  .rename_i h
   have e:j+y.idxOf a<Y.length:=by
    have:=h.1;rw[c,length_drop]at this;rw[c];omega
   refine .cons (Nat.le_refl _) (by omega) d e ?_ ?_
   .have f:=getElem_idxOf h.1;refine b.1.trans (f.symm.trans ?_);simp only[c,getElem_drop]
   .exact wG X Y x _ _ _ b.2 (by rw[c,drop_drop,<-c];congr 1)
  .exact(wG X Y x y (i+1) j b.2 c).mono (by omega) (Nat.le_refl _)
def ru(y:List α):List α->Nat->Option Nat
 |[],j=>some j
 |e::a,j=>if (y.drop j).idxOf e<(y.drop j).length then ru y a (j+(y.drop j).idxOf e+1)else none
theorem vD(y:List α)(e:α):∀(b:List α) (j:Nat),ru y (b++[e]) j=match ru y b j with
  |some k=>if (y.drop k).idxOf e<(y.drop k).length then some (k+(y.drop k).idxOf e+1)else none
  |none=>none
 |[],j=>rfl
 |a::b,j=>by
  simp only[cons_append,ru];split
  .exact vD y e b _
  .rfl
theorem rR:∀(x y:List α) (i j p q:Nat) (l:List (Nat×Nat)),gr x y i j=(p,q)::l->∃d,∃h:d<x.length,p=i+d/\y.idxOf x[d]<y.length/\q=j+y.idxOf x[d]/\l=gr (x.drop (d+1)) (y.drop (y.idxOf x[d]+1)) (p+1) (q+1)
 |[],y,i,j,p,q,l,h=>by simp[gr]at h
 |a::x,y,i,j,p,q,l,h=>by
  rw[AR]at h;split at h
  .rename_i b;cases h;exact⟨0,by simp,by omega,b.1,rfl,rfl⟩
  .obtain⟨d,g,k,c,e,f⟩:=rR x y (i+1) j p q l h;exact⟨d+1,by simp;omega,by omega,c,e,f⟩
def fo(a:α)(y:List α):Nat:=y.idxOf a
theorem Fc(a:α):fo a []=0:=by simp[fo]
theorem rT(a:α)(y:List α):fo a (a::y)=0:=idxOf_cons_self
theorem Cg{a b:α}(y:List α)(h:b≠a):fo a (b::y)=fo a y+1:=nV y h
theorem LB(a:α)(y:List α):fo a y<=y.length:=idxOf_le_length
theorem y6(y:List α)(e:α)(a:List α)(j:Nat):ru y (e::a) j=if fo e (y.drop j)<(y.drop j).length then ru y a (j+fo e (y.drop j)+1)else none:=rfl
theorem nY(a:α)(x y:List α)(i j:Nat):gr (a::x) y i j=if fo a y<y.length/\1+lc x (y.drop (fo a y+1))=lc (a::x) y then(i,j+fo a y)::gr x (y.drop (fo a y+1)) (i+1) (j+fo a y+1)else gr x y (i+1) j:=rfl
end
def fu(s:ev):List ev:=bif decide ((jA 10 (zQ 10 s)).getLast?=some [])then(jA 10 (zQ 10 s)).dropLast else jA 10 (zQ 10 s)
theorem mo(c:UInt8):∀l:List ev,(jA c l).length=l.length
 |[]=>rfl
 |[x]=>rfl
 |x::y::r=>by simp only[jA,length_cons,mo c (y::r)]
theorem qj(s:ev)(f:s.length<=17179869184):(call (GI s ([10]:ev)) fun b =>
 eL b (IntKind.i64.wrap ((b.length:Int)-1)) fun c =>
 bif decide (c=[])then
  eA (0<=IntKind.i64.wrap ((b.length:Int)-1)/\IntKind.i64.wrap ((b.length:Int)-1)<=(b.length:Int)) <|
  some (List.take ((IntKind.i64.wrap ((b.length:Int)-1)).toNat) b)
 else
 some b)=some (fu s):=by
 rw[TH s 10 f,zf];unfold fu;have d:(jA 10 (zQ 10 s)).length=s.count 10+1:=by rw[mo,NK]
 have g:=count_le_length (a:=(10:UInt8)) (l:=s);have h:jA 10 (zQ 10 s)≠[]:=fun e=>by rw[e]at d;simp at d
 generalize jA 10 (zQ 10 s)=l at *;rw[yp l.length (by omega) (by omega),mJ (by omega),getLast?_eq_getElem?,getElem?_eq_getElem (by omega)];simp only[Option.some.injEq];cases decide (l[l.length-1]=[])
 .rfl
 .simp only[cond_true];rw[zg (by omega),Int.toNat_natCast,dropLast_eq_take]
theorem H8(s:ev)(a:s.length<=17179869184):yD s=some (fu s):=qj s a
theorem qk(s:ev):(fu s).length<=s.length+1:=by
 have c:(jA 10 (zQ 10 s)).length=s.count 10+1:=by rw[mo,NK]
 have b:=count_le_length (a:=(10:UInt8)) (l:=s);unfold fu;cases decide ((jA 10 (zQ 10 s)).getLast?=some [])
 .simp only[cond_false];omega
 .simp only[cond_true,length_dropLast];omega
theorem oZ(c:UInt8):∀l:List ev,(jA c l).flatten=List.intercalate [c] l
 |[]=>rfl
 |[x]=>by simp[jA,List.intercalate]
 |x::y::r=>by have:=oZ c (y::r);simp only[jA,flatten_cons,this,List.intercalate,List.intersperse];simp
theorem Sd(c:UInt8):∀(n:Nat) (s:ev),s.length<=n->List.intercalate [c] (zQ c s)=s
 |0,s,h=>by
  obtain rfl:s=[]:=length_eq_zero_iff.1 (by omega);rw[C6 (by simp)];simp[List.intercalate]
 |n+1,s,h=>by
  by_cases d:c∈s
  .obtain⟨e,f,g⟩:=uK d;have i:=(CN c s).2.2 e;rw[Ny,if_pos e];have b:=Sd c n (eW c s).2.1 (by omega);have a:=CS c (eW c s).2.1;generalize zQ c (eW c s).2.1=q at b a;cases q with
   |nil=>exact absurd rfl a
   |cons y r =>
    simp only[List.intercalate,List.intersperse]at b|-;rw[flatten_cons,flatten_cons,b];conv=>rhs;rw[f]
    simp
  .rw[C6 d];simp[List.intercalate]
theorem nK(s:ev):(fu s).flatten=s:=by
 have h:(jA 10 (zQ 10 s)).flatten=s:=by rw[oZ,Sd 10 s.length s (Nat.le_refl _)]
 unfold fu;generalize jA 10 (zQ 10 s)=l at *;by_cases e:l.getLast?=some []
 .rw[decide_eq_true e,cond_true];rw[getLast?_eq_some_iff]at e;obtain⟨q,rfl⟩:=e;simpa using h
 .rw[decide_eq_false e,cond_false];exact h
def Gt(f:Nat->Nat->Int)(n m:Nat):List (List Int):=(List.range n).map fun i=>(List.range m).map (f i)
theorem FJ(f:Nat->Nat->Int)(n m:Nat):(Gt f n m).length=n:=by simp[Gt]
theorem qF(f:Nat->Nat->Int){n m i:Nat}(h:i<n):(Gt f n m).getD i []=(List.range m).map (f i):=by simp[Gt,getD_eq_getElem?_getD,h]
theorem CA(f:Nat->Nat->Int){n m i:Nat}(h:i<n):((Gt f n m).getD i []).length=m:=by rw[qF f h];simp
theorem i7(f:Nat->Nat->Int){n m i j:Nat}(h:i<n)(a:j<m):((Gt f n m).getD i []).getD j 0=f i j:=by rw[qF f h];simp[getD_eq_getElem?_getD,a]
theorem MV{f g:Nat->Nat->Int}{n m:Nat}(h:∀i j,i<n->j<m->f i j=g i j):Gt f n m=Gt g n m:=by
 unfold Gt;refine map_congr_left fun i hi=>map_congr_left fun j a=>?_;exact h i j (mem_range.1 hi) (mem_range.1 a)
theorem xL(f:Nat->Nat->Int){n m i j:Nat}(h:i<n)(g:j<m)(v:Int):List.set (Gt f n m) i (List.set ((Gt f n m).getD i []) j v)=Gt (fun a b=>if a=i/\b=j then v else f a b) n m:=by
 rw[qF f h];apply ext_getElem
 .simp[Gt]
 .intro a d k;simp only[length_set,FJ]at d;rw[getElem_set];simp only[Gt,getElem_map,getElem_range];split
  .rename_i e;subst e;apply ext_getElem
   .simp
   .intro b l o;rw[getElem_set];simp only[getElem_map,getElem_range,true_and];by_cases c:j=b
    .subst c;simp
    .rw[if_neg c,if_neg (Ne.symm c)]
  .rename_i e;refine map_congr_left fun b _=>?_;rw[if_neg fun h=>e h.1.symm]
section
variable {α:Type} [DecidableEq α]
def Ft(x y:List α)(i k:Nat):Nat->Nat->Int:=fun a b=>if i<a∨(a=i/\k<=b)then((lc (x.drop a) (y.drop b):Nat):Int)else 0
theorem yk(x y:List α){i k a b:Nat}(h:i<a∨(a=i/\k<=b)):Ft x y i k a b=((lc (x.drop a) (y.drop b):Nat):Int):=if_pos h
theorem Mi{x y:List α}{i k:Nat}(hi:i<x.length)(d:k<y.length)(e:x[i]≠y[k]):Gt (fun a b=>if a=i/\b=k then max (Ft x y i (k+1) (i+1) k) (Ft x y i (k+1) i (k+1))else Ft x y i (k+1) a b) (x.length+1) (y.length+1)=Gt (Ft x y i k) (x.length+1) (y.length+1):=by
 refine MV fun a b f g=>?_;by_cases h:a=i/\b=k
 .obtain⟨rfl,rfl⟩:=h;rw[if_pos ⟨rfl,rfl⟩,yk x y (.inl (by omega)),yk x y (.inr ⟨rfl,by omega⟩),yk x y (.inr ⟨rfl,by omega⟩),drop_eq_getElem_cons hi,drop_eq_getElem_cons d,CF,if_neg e];omega
 .rw[if_neg h];unfold Ft;by_cases c:i<a∨(a=i/\k+1<=b)
  .rw[if_pos c,if_pos (by omega)]
  .rw[if_neg c,if_neg (by omega)]
theorem Mj{x y:List α}{i k:Nat}(hi:i<x.length)(e:k<y.length)(f:x[i]=y[k]){g:Nat->Nat->Int}(c:∀a b,g a b=if a=i/\b=k then max (Ft x y i (k+1) (i+1) k) (Ft x y i (k+1) i (k+1))else Ft x y i (k+1) a b) :
  Gt (fun a b=>if a=i/\b=k then max (g i k) (1+g (i+1) (k+1))else g a b) (x.length+1) (y.length+1)=Gt (Ft x y i k) (x.length+1) (y.length+1):=by
 refine MV fun a b j l=>?_;by_cases h:a=i/\b=k
 .obtain⟨rfl,rfl⟩:=h;rw[if_pos ⟨rfl,rfl⟩,c,c,if_pos ⟨rfl,rfl⟩,if_neg (by omega),yk x y (.inl (by omega)),yk x y (.inr ⟨rfl,by omega⟩),yk x y (.inl (by omega)),yk x y (.inr ⟨rfl,by omega⟩),drop_eq_getElem_cons hi,drop_eq_getElem_cons e,CF,if_pos f];omega
 .rw[if_neg h,c,if_neg h];unfold Ft;by_cases d:i<a∨(a=i/\k+1<=b)
  .rw[if_pos d,if_pos (by omega)]
  .rw[if_neg d,if_neg (by omega)]
theorem Bp{x y:List α}{i:Nat}(hi:i<=x.length):Gt (Ft x y (i+1) 0) (x.length+1) (y.length+1)=Gt (Ft x y i y.length) (x.length+1) (y.length+1):=by
 refine MV fun a b d e=>?_;unfold Ft;by_cases h:i<a
 .rw[if_pos (by omega),if_pos (by omega)]
 .rw[if_neg (by omega)];by_cases c:a=i/\y.length<=b
  .rw[if_pos (.inr c),drop_eq_nil_of_le c.2,MD];rfl
  .rw[if_neg (by omega)]
theorem xM{x y:List α}:Gt (fun _ _=>0) (x.length+1) (y.length+1)=Gt (Ft x y x.length 0) (x.length+1) (y.length+1):=by
 refine MV fun a b c d=>?_;unfold Ft;by_cases h:x.length<a∨(a=x.length/\0<=b)
 .rw[if_pos h,drop_eq_nil_of_le (by omega),lE];rfl
 .rw[if_neg h]
theorem xN{x y:List α}{a b:Nat}:Ft x y 0 0 a b=((lc (x.drop a) (y.drop b):Nat):Int):=yk x y (by omega)
end
def jw(l:List (Nat×Nat)):List ao:=l.map fun p=>⟨p.1,p.2⟩
theorem u2{α Z:Type}[DecidableEq α](a b:List α)(Cc:a.length<=100000)(l:b.length<=100000)(N:Nat)(m:1099511627776<=N)(K:List (List Int)->Option Z) :
  loopN N (fun s f g =>
  match s with
  |(c,d) =>
   bif decide (c<((List.replicate ((IntKind.i64.wrap ((a.length:Int)+1)).toNat) ([]:List Int)).length:Int))then
    eA (0<=IntKind.i64.wrap ((b.length:Int)+1)/\IntKind.i64.wrap ((b.length:Int)+1)<=IntKind.i64.wrap ((b.length:Int)+1)/\IntKind.i64.wrap ((b.length:Int)+1)<=274877906944) <|
    eA (0<=c/\c<(d.length:Int)) <|
    fK (List.set d c.toNat (List.replicate ((IntKind.i64.wrap ((b.length:Int)+1)).toNat) (0:Int))) fun i =>
    f (IntKind.i64.wrap (c+1),i)
   else
   g (c,d)) ((0:Int),List.replicate ((IntKind.i64.wrap ((a.length:Int)+1)).toNat) ([]:List Int)) (fun s=>match s with
  |(c,d) =>
   K d)=K (Gt (Ft a b a.length 0) (a.length+1) (b.length+1)):=by
 rw[fw a.length (by omega),fw b.length (by omega)];simp only[Int.toNat_natCast];refine pq (S:=Int×List (List Int)) (fun s=>∃t:Nat,s.1=t/\t<=a.length+1/\s.2=(List.range (a.length+1)).map fun p=>if p<t then List.replicate (b.length+1) 0 else []) (fun s=>a.length+1-s.1.toNat) (fun _=>K (Gt (Ft a b a.length 0) (a.length+1) (b.length+1))) ?_ N _ ⟨0,rfl,by omega,by simp[map_const']⟩ (by simp only;omega);rintro⟨r,o⟩ nx ⟨t,rfl,u,rfl⟩ j;dsimp only[fK];by_cases h:t<a.length+1
 .rw[decide_eq_true (by simp;omega),cond_true,zg (by omega),zg (by simp;omega),fw t (by omega)];refine j (_,_) ⟨t+1,rfl,by omega,?_⟩ (by simp only[Int.toNat_natCast];omega);apply ext_getElem
  .simp
  .intro p v w;rw[getElem_set];simp only[getElem_map,getElem_range,Int.toNat_natCast];by_cases e:t=p
   .subst e;simp
   .rw[if_neg e];by_cases k:p<t
    .rw[if_pos k,if_pos (by omega)]
    .rw[if_neg k,if_neg (by omega)]
 rw[decide_eq_false (by simp;omega),cond_false];obtain rfl:t=a.length+1:=by omega
 have n:((List.range (a.length+1)).map fun p=>if p<a.length+1 then List.replicate (b.length+1) (0:Int)else [])=Gt (Ft a b a.length 0) (a.length+1) (b.length+1):=by
  rw[<-xM];unfold Gt;refine map_congr_left fun p q=>?_;rw[if_pos (mem_range.1 q)];simp[map_const']
 rw[n]
theorem yW{α Z:Type}[DecidableEq α](a b:List α)(Cc:a.length<=100000)(y:b.length<=100000)(N:Nat)(z:1099511627776<=N)(i:Nat)(r:i<a.length)(K:List (List Int)->Option Z) :
  loopN N (fun s j m =>
      match s with
      |(e,f) =>
       bif decide (0<=e)then
        eA (0<=(i:Int)/\(i:Int)<(f.length:Int)) <|
        eA (0<=IntKind.i64.wrap ((i:Int)+1)/\IntKind.i64.wrap ((i:Int)+1)<(f.length:Int)) <|
        eA (0<=e/\e<((f.getD ((IntKind.i64.wrap ((i:Int)+1)).toNat) []).length:Int)) <|
        eA (0<=(i:Int)/\(i:Int)<(f.length:Int)) <|
        eA (0<=IntKind.i64.wrap (e+1)/\IntKind.i64.wrap (e+1)<((f.getD (i:Int).toNat []).length:Int)) <|
        eA (0<=e/\e<((f.getD (i:Int).toNat []).length:Int)) <|
        fK (List.set f (i:Int).toNat (List.set (f.getD (i:Int).toNat []) e.toNat (max ((f.getD ((IntKind.i64.wrap ((i:Int)+1)).toNat) []).getD e.toNat 0) ((f.getD (i:Int).toNat []).getD ((IntKind.i64.wrap (e+1)).toNat) 0)))) fun h =>
        eL a (i:Int) fun n =>
        eL b e fun p =>
        bif decide (n=p)then
         eA (0<=(i:Int)/\(i:Int)<(h.length:Int)) <|
         eA (0<=(i:Int)/\(i:Int)<(h.length:Int)) <|
         eA (0<=e/\e<((h.getD (i:Int).toNat []).length:Int)) <|
         eA (0<=IntKind.i64.wrap ((i:Int)+1)/\IntKind.i64.wrap ((i:Int)+1)<(h.length:Int)) <|
         eA (0<=IntKind.i64.wrap (e+1)/\IntKind.i64.wrap (e+1)<((h.getD ((IntKind.i64.wrap ((i:Int)+1)).toNat) []).length:Int)) <|
         eA (0<=e/\e<((h.getD (i:Int).toNat []).length:Int)) <|
         fK (List.set h (i:Int).toNat (List.set (h.getD (i:Int).toNat []) e.toNat (max ((h.getD (i:Int).toNat []).getD e.toNat 0) (IntKind.i64.wrap (1+((h.getD ((IntKind.i64.wrap ((i:Int)+1)).toNat) []).getD ((IntKind.i64.wrap (e+1)).toNat) 0)))))) fun q =>
         j (IntKind.i64.wrap (e-1),q)
        else
        j (IntKind.i64.wrap (e-1),h)
       else
       m (e,f)) (IntKind.i64.wrap ((b.length:Int)-1),Gt (Ft a b i b.length) (a.length+1) (b.length+1)) (fun s=>match s with
      |(e,f)=>K f)=K (Gt (Ft a b i 0) (a.length+1) (b.length+1)):=by
 have w:IntKind.i64.wrap ((b.length:Int)-1)=(b.length:Int)-1:=gj (by omega) (by omega);rw[w];refine pq (S:=Int×List (List Int)) (fun s=>∃k:Nat,s.1=(k:Int)-1/\k<=b.length/\s.2=Gt (Ft a b i k) (a.length+1) (b.length+1)) (fun s=>(s.1+1).toNat) (fun _=>K (Gt (Ft a b i 0) (a.length+1) (b.length+1))) ?_ N _ ⟨b.length,rfl,Nat.le_refl _,rfl⟩ (by simp only;omega);rintro⟨F,o⟩ A ⟨k,rfl,G,rfl⟩ l;dsimp only[fK];cases k with
 |succ k =>
  have B:((k+1:Nat):Int)-1=(k:Nat):=by omega
  rw[B]at l|-;have t:k<b.length:=by omega
  have C:IntKind.i64.wrap ((i:Int)+1)=((i+1:Nat):Int):=fw i (by omega);have D:IntKind.i64.wrap ((k:Int)+1)=((k+1:Nat):Int):=fw k (by omega);have E:IntKind.i64.wrap ((k:Int)-1)=(k:Int)-1:=gj (by omega) (by omega);rw[decide_eq_true (by omega),cond_true];simp only[C,D,E,Int.toNat_natCast,FJ];rw[zg (by omega),zg (by omega),zg (by rw[CA _ (by omega)];omega),zg (by omega),zg (by rw[CA _ (by omega)];omega),zg (by rw[CA _ (by omega)];omega)];rw[i7 _ (by omega) (by omega),i7 _ (by omega) (by omega),xL _ (by omega) (by omega),mJ r,mJ t];by_cases v:a[i]=b[k]
  .rw[decide_eq_true v,cond_true];simp only[FJ];rw[zg (by omega),zg (by omega),zg (by rw[CA _ (by omega)];omega),zg (by omega),zg (by rw[CA _ (by omega)];omega),zg (by rw[CA _ (by omega)];omega)];rw[i7 _ (by omega) (by omega),i7 _ (by omega) (by omega)];have u:(if i+1=i/\k+1=k then max (Ft a b i (k+1) (i+1) k) (Ft a b i (k+1) i (k+1))else Ft a b i (k+1) (i+1) (k+1))=((lc (a.drop (i+1)) (b.drop (k+1)):Nat):Int):=by rw[if_neg (by omega)];exact yk a b (.inl (by omega))
   have x:=rJ (a.drop (i+1)) (b.drop (k+1));simp only[length_drop]at x;rw[u,gj (by omega) (by omega),<-u,xL _ (by omega) (by omega)];have:=Mj (g:=fun c d=>if c=i/\d=k then max (Ft a b i (k+1) (i+1) k) (Ft a b i (k+1) i (k+1))else Ft a b i (k+1) c d) r t v fun _ _=>rfl;exact l (_,_) ⟨k,rfl,by omega,this⟩ (by simp only;omega)
  .rw[decide_eq_false v,cond_false];exact l (_,_) ⟨k,rfl,by omega,Mi r t v⟩ (by simp only;omega)
 |zero=>rw[decide_eq_false (by omega),cond_false]
theorem yX{α Z:Type}[DecidableEq α](a b:List α)(Cc:a.length<=100000)(u:b.length<=100000)(N:Nat)(v:1099511627776<=N)(K:List (List Int)->Option Z) :
  loopN N (fun s j l =>
   match s with
   |(c,g) =>
    bif decide (0<=c)then
     jp (S:=List (List Int)) (fun k =>
      j (IntKind.i64.wrap (c-1),k)) fun m =>
     loopN N (fun s h n =>
      match s with
      |(d,e) =>
       bif decide (0<=d)then
        eA (0<=c/\c<(e.length:Int)) <|
        eA (0<=IntKind.i64.wrap (c+1)/\IntKind.i64.wrap (c+1)<(e.length:Int)) <|
        eA (0<=d/\d<((e.getD ((IntKind.i64.wrap (c+1)).toNat) []).length:Int)) <|
        eA (0<=c/\c<(e.length:Int)) <|
        eA (0<=IntKind.i64.wrap (d+1)/\IntKind.i64.wrap (d+1)<((e.getD c.toNat []).length:Int)) <|
        eA (0<=d/\d<((e.getD c.toNat []).length:Int)) <|
        fK (List.set e c.toNat (List.set (e.getD c.toNat []) d.toNat (max ((e.getD ((IntKind.i64.wrap (c+1)).toNat) []).getD d.toNat 0) ((e.getD c.toNat []).getD ((IntKind.i64.wrap (d+1)).toNat) 0)))) fun f =>
        eL a c fun p =>
        eL b d fun q =>
        bif decide (p=q)then
         eA (0<=c/\c<(f.length:Int)) <|
         eA (0<=c/\c<(f.length:Int)) <|
         eA (0<=d/\d<((f.getD c.toNat []).length:Int)) <|
         eA (0<=IntKind.i64.wrap (c+1)/\IntKind.i64.wrap (c+1)<(f.length:Int)) <|
         eA (0<=IntKind.i64.wrap (d+1)/\IntKind.i64.wrap (d+1)<((f.getD ((IntKind.i64.wrap (c+1)).toNat) []).length:Int)) <|
         eA (0<=d/\d<((f.getD c.toNat []).length:Int)) <|
         fK (List.set f c.toNat (List.set (f.getD c.toNat []) d.toNat (max ((f.getD c.toNat []).getD d.toNat 0) (IntKind.i64.wrap (1+((f.getD ((IntKind.i64.wrap (c+1)).toNat) []).getD ((IntKind.i64.wrap (d+1)).toNat) 0)))))) fun r =>
         h (IntKind.i64.wrap (d-1),r)
        else
        h (IntKind.i64.wrap (d-1),f)
       else
       n (d,e)) (IntKind.i64.wrap ((b.length:Int)-1),g) (fun s=>match s with
      |(d,e)=>m e)
    else
    l (c,g)) (IntKind.i64.wrap ((a.length:Int)-1),Gt (Ft a b a.length 0) (a.length+1) (b.length+1)) (fun s=>match s with
   |(c,g)=>K g)=K (Gt (Ft a b 0 0) (a.length+1) (b.length+1)):=by
 have w:IntKind.i64.wrap ((a.length:Int)-1)=(a.length:Int)-1:=gj (by omega) (by omega);rw[w];refine pq (S:=Int×List (List Int)) (fun s=>∃i:Nat,s.1=(i:Int)-1/\i<=a.length/\s.2=Gt (Ft a b i 0) (a.length+1) (b.length+1)) (fun s=>(s.1+1).toNat) (fun _=>K (Gt (Ft a b 0 0) (a.length+1) (b.length+1))) ?_ N _ ⟨a.length,rfl,Nat.le_refl _,rfl⟩ (by simp only;omega);rintro⟨y,o⟩ nx ⟨i,rfl,hi,rfl⟩ t;dsimp only;cases i with
 |succ i =>
  have x:((i+1:Nat):Int)-1=(i:Nat):=by omega
  rw[x]at t|-;rw[decide_eq_true (by omega),cond_true,Bp (by omega),eJ];refine(yW a b Cc u N v i (by omega) fun o=>nx (IntKind.i64.wrap ((i:Int)-1),o)).trans ?_;refine t (_,_) ⟨i,gj (by omega) (by omega),by omega,rfl⟩ ?_;simp only;rw[gj (by omega) (by omega)];omega
 |zero=>rw[decide_eq_false (by omega),cond_false]
theorem AC{A Z:Type}(a:A)(k:A->Option Z):fK a k=k a:=rfl
theorem oS{α Z:Type}{p:α->Prop}{k:α->Option Z}{z:Z}(a:α)(b:p a)(h:∀x,p x->k x=some z):us p k=some z:=by have c:∃z,∀x,p x->k x=some z:=⟨z,h⟩;unfold us;rw[dif_pos c];exact(c.choose_spec a b).symm.trans (h a b)
theorem tG(s:List Int)(h:s.length<=1000000):Dd s=some s:=by
 unfold Dd;refine oS false (fun e=>by cases e) fun b a=>?_;cases b with
 |true=>rw[a rfl];rfl
 |false=>rw[cond_false,nil_append,zg (by omega)]
theorem sY(x y:List ev)(n:Nat)(k:n<x.length)(o:y.length<=100000)(N:Nat)(l:1099511627776<=N)(K:Int->Option Bool)(j:Nat)(m:j<=y.length) :
  loopN N (fun a b c =>
   eA ((decide (a<(y.length:Int)))=true->(0<=a/\a<(y.length:Int))) <|
   eA ((decide (a<(y.length:Int)))=true->(0<=(n:Int)/\(n:Int)<(x.length:Int))) <|
   bif ((decide (a<(y.length:Int)))&&(!decide ((y.getD a.toNat [])=(x.getD (n:Int).toNat []))))then
    b (IntKind.i64.wrap (a+1))
   else
   c a) (j:Int) K=K ((j+fo x[n] (y.drop j):Nat):Int):=by
 refine pq (S:=Int) (fun s=>∃q:Nat,s=q/\j<=q/\q<=y.length/\q+fo x[n] (y.drop q)=j+fo x[n] (y.drop j)) (fun s=>y.length-s.toNat) (fun _=>K ((j+fo x[n] (y.drop j):Nat):Int)) ?_ N _ ⟨j,rfl,Nat.le_refl _,m,rfl⟩ (by first|omega|(simp only;omega));rintro s nx ⟨q,rfl,p,r,d⟩ f;rw[zg (fun h=>by have:=of_decide_eq_true h;omega),zg (fun _=>by omega)];simp only[Int.toNat_natCast];have hx:x.getD n []=x[n]:=by simp[getD_eq_getElem?_getD,k]
 by_cases h:q<y.length
 .have g:y.getD q []=y[q]:=by simp[getD_eq_getElem?_getD,h]
  rw[decide_eq_true (by omega),Bool.true_and];simp only[hx,g];have i:=drop_eq_getElem_cons h;by_cases e:y[q]=x[n]
  .rw[decide_eq_true e,Bool.not_true,cond_false];rw[i,e,rT]at d;congr 1;omega
  .rw[decide_eq_false e,Bool.not_false,cond_true,fw q (by omega)];refine f _ ⟨q+1,rfl,by omega,by omega,?_⟩ (by simp only[Int.toNat_natCast];omega);rw[i,Cg _ e]at d;omega
 .rw[decide_eq_false (by omega),Bool.false_and,cond_false];obtain rfl:q=y.length:=by omega
  rw[drop_eq_nil_of_le (Nat.le_refl _)]at d;simp only[Fc]at d;congr 1;omega
def iB(l:List Nat):List Int:=List.map (fun(n:Nat)=>(n:Int)) l
theorem AU(x y:List ev)(hx:x.length<=100000)(L:y.length<=100000)(g:List Nat)(i:Nat)(D:∀p∈g,p<x.length)(hi:i<x.length)(K:g.length<=100000)(left:Int) :
  Cm x y (iB (g++[i])) left (Gt (Ft x y 0 0) (x.length+1) (y.length+1))=match ru y ((g++[i]).map fun p=>x.getD p []) 0 with
   |some k=>some (decide (left<=((lc (x.drop (i+1)) (y.drop k):Nat):Int)))
   |none=>some false:=by
 unfold Cm;obtain⟨N,E⟩:∃N,ff=N:=⟨_,rfl⟩;have F:1099511627776<=N:=E ▸ qM;rw[E];clear E;rw[eJ];have ol:∀k:Nat,k<=y.length->(eL (iB (g++[i])) (IntKind.i64.wrap (((iB (g++[i])).length:Int)-1)) fun c =>
  eL (Gt (Ft x y 0 0) (x.length+1) (y.length+1)) (IntKind.i64.wrap (c+1)) fun d =>
  eL d (k:Int) fun e =>
  some (decide (left<=e)))=some (decide (left<=((lc (x.drop (i+1)) (y.drop k):Nat):Int))):=by
  intro k T;have M:(iB (g++[i])).length=g.length+1:=by simp[iB]
  rw[yp _ (by omega) (by omega),mJ (by omega)];have r:(iB (g++[i]))[(iB (g++[i])).length-1]'(by omega)=(i:Int):=by simp[iB]
  rw[r,fw i (by omega),mJ (by rw[FJ];omega)];have A:(Gt (Ft x y 0 0) (x.length+1) (y.length+1))[i+1]'(by rw[FJ];omega)=(List.range (y.length+1)).map (Ft x y 0 0 (i+1)):=by simp[Gt]
  rw[A,mJ (by simp;omega)];simp only[getElem_map,getElem_range,xN]
 have key:∀(l:List Nat) (q:Nat) (j:Nat),(∀p∈l,p<x.length)->j<=y.length->forL (iB l) q (fun G f s n H =>
  jp (S:=Int) (fun t =>
   n t) fun u =>
  jp (S:=Int) (fun m =>
   bif decide (m=(y.length:Int))then
    some false
   else
   u (IntKind.i64.wrap (m+1))) fun v =>
  loopN N (fun b o w =>
   eA ((decide (b<(y.length:Int)))=true->(0<=b/\b<(y.length:Int))) <|
   eA ((decide (b<(y.length:Int)))=true->(0<=f/\f<(x.length:Int))) <|
   bif ((decide (b<(y.length:Int)))&&(!decide ((y.getD b.toNat [])=(x.getD f.toNat []))))then
    o (IntKind.i64.wrap (b+1))
   else
   w b) s (fun b =>
   v b)) (j:Int) (fun z =>
  eL (iB (g++[i])) (IntKind.i64.wrap (((iB (g++[i])).length:Int)-1)) fun c =>
  eL (Gt (Ft x y 0 0) (x.length+1) (y.length+1)) (IntKind.i64.wrap (c+1)) fun d =>
  eL d z fun e =>
  some (decide (left<=e)))=match ru y (l.map fun p=>x.getD p []) j with
   |some k=>some (decide (left<=((lc (x.drop (i+1)) (y.drop k):Nat):Int)))
   |none=>some false:=by
  intro l;induction l with
  |nil=>intro q j _ I;exact ol j I
  |cons p l O =>
   intro q j C I;have B:p<x.length:=C p (by simp);show jp _ _=_;rw[eJ,eJ];refine(sY x y p B L N F _ j I).trans ?_;dsimp only;have J:x.getD p []=x[p]:=by simp[getD_eq_getElem?_getD,B]
   have P:=LB x[p] (y.drop j);have Q:(y.drop j).length=y.length-j:=length_drop ..;rw[map_cons,y6,J];by_cases h:fo x[p] (y.drop j)<(y.drop j).length
   .rw[decide_eq_false (by omega),cond_false,if_pos h,fw _ (by omega)];exact O (q+1) _ (fun a R=>C a (by simp[R])) (by omega)
   .rw[decide_eq_true (by omega),cond_true,if_neg h]
 exact key (g++[i]) 0 0 (fun p C=>by
  rcases mem_append.1 C with h|h
  .exact D p h
  .simp at h;omega) (by omega)
theorem vr{Z:Type}(x y:List ev)(n:Nat)(m:n<x.length)(r:y.length<=100000)(N:Nat)(o:1099511627776<=N)(K:Int->Option Z)(j:Nat)(i:fo x[n] (y.drop j)<(y.drop j).length) :
  loopN N (fun a b c =>
       eL y a fun d =>
       eL x (n:Int) fun f =>
       bif !decide (d=f)then
        b (IntKind.i64.wrap (a+1))
       else
       c a) (j:Int) K=K ((j+fo x[n] (y.drop j):Nat):Int):=by
 have p:j<y.length:=by rw[length_drop]at i;omega
 refine pq (S:=Int) (fun s=>∃q:Nat,s=q/\j<=q/\q+fo x[n] (y.drop q)=j+fo x[n] (y.drop j)) (fun s=>y.length-s.toNat) (fun _=>K ((j+fo x[n] (y.drop j):Nat):Int)) ?_ N _ ⟨j,rfl,Nat.le_refl _,rfl⟩ (by first|omega|(simp only;omega));rintro s nx ⟨q,rfl,t,k⟩ g;rw[length_drop]at i;have h:q<y.length:=by omega
 rw[mJ h,mJ m];have l:=drop_eq_getElem_cons h;by_cases e:y[q]=x[n]
 .rw[decide_eq_true e,Bool.not_true,cond_false];rw[l,e,rT]at k;congr 1;omega
 .rw[decide_eq_false e,Bool.not_false,cond_true,fw q (by omega)];refine g _ ⟨q+1,rfl,by omega,?_⟩ (by simp only[Int.toNat_natCast];omega);rw[l,Cg _ e]at k;omega
theorem qr:∀(x y:List ev) (i j:Nat),(gr x y i j).length<=x.length
 |[],y,i,j=>by simp[gr]
 |a::x,y,i,j=>by
  rw[nY];split
  .simp only[length_cons];have:=qr x (y.drop (fo a y+1)) (i+1) (j+fo a y+1);omega
  .have:=qr x y (i+1) j;simp only[length_cons];omega
end Go.Md

