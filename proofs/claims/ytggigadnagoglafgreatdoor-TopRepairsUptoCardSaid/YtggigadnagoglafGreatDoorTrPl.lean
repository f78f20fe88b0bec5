/- Plain lemmas on the models: the law's model answers true. -/
import Derived.Test.YtggigadnagoglafGreatDoorTrMd
set_option linter.unusedSimpArgs false
set_option linter.unusedVariables false
set_option linter.unusedSectionVars false
open List
namespace Go.Md
open Go.Vc
section
variable {Z A S α:Type}
theorem zg(x:A)(k:A->Option Z):call (some x) k=k x:=rfl
theorem lg(g:Bool)(x d:A)(k:A->Option Z):callG g (some x) d k=k (bif g then x else d):=by cases g <;> rfl
theorem JP(a:Option A)(d:A)(k:A->Option Z):callG true a d k=call a k:=rfl
theorem J4(a:Option A)(d:A)(k:A->Option Z):callG false a d k=k d:=rfl
theorem zo{p:Prop}[Decidable p](h:p)(m:Option Z):dZ p m=m:=if_pos h
theorem ft(F:S->Option Z)(m:(S->Option Z)->Option Z):jp F m=m F:=rfl
theorem kF{s:dX}{i:Nat}(h:i<s.length)(k:Int->Option Z):iC s i k=k (s[i].toNat:Int):=by
 unfold iC;simp[h]
theorem om{l:List α}{i:Nat}(h:i<l.length)(k:α->Option Z):ye l i k=k l[i]:=by
 unfold ye;simp[h]
theorem BD{f:Nat->α->Unit->(Unit->Option Z)->(Unit->Option Z)->Option Z}{z:Z}(q:α->Bool)(hf:∀i x nx k,f i x () nx k=bif q x then nx ()else some z)(k:Unit->Option Z) :
  ∀(l:List α) (i:Nat),forL l i f () k=bif l.all q then k ()else some z
 |[],i=>rfl
 |x::l,i=>by
  unfold forL;rw[hf,BD q hf k l (i+1),all_cons]
  cases q x <;> rfl
theorem Gb{f:S->(S->Option Z)->(S->Option Z)->Option Z}{k:S->Option Z}(inv:S->Prop)(mu:S->Nat)(R:S->Option Z)
  (h:∀s nx,inv s->(∀s',inv s'->mu s'<mu s->nx s'=R s')->f s nx k=R s):∀(N:Nat) (s:S),inv s->mu s<N->loopN N f s k=R s
 |0,s,_,hm=>by omega
 |N+1,s,hi,hm=>by
  unfold loopN
  exact h s _ hi fun s' hs' hlt=>Gb inv mu R h N s' hs' (by omega)
theorem mA{f:Nat->S->(S->Option Z)->(S->Option Z)->Option Z}{k:S->Option Z}(n:Nat)(inv:Nat->S->Prop)(R:Nat->S->Option Z)
  (h0:∀s,inv n s->k s=R n s) (h1:∀i s nx,i<n->inv i s->(∀s',inv (i+1) s'->nx s'=R (i+1) s')->f i s nx k=R i s) :
  ∀(m i:Nat) (s:S),m+i=n->inv i s->forC m i f s k=R i s
 |0,i,s,e,h=>by
  obtain rfl:i=n:=by omega
  exact h0 s h
 |m+1,i,s,e,h=>by
  unfold forC
  exact h1 i s _ (by omega) h fun s' hs=>mA n inv R h0 h1 m (i+1) s' (by omega) hs
theorem u6(b:Bool)(x y:Z):(bif b then some x else some y)=some (bif b then x else y):=by cases b <;> rfl
theorem pV(c:Bool)(x y:Z):(bif c then x else y)=bif !c then y else x:=by cases c <;> rfl
theorem Ft{c:Bool}(h:c=true)(x y:Z):(bif c then x else y)=x:=by rw[h];rfl
theorem Fu{c:Bool}(h:c=false)(x y:Z):(bif c then x else y)=y:=by rw[h];rfl
end
theorem qf{n:Int}(h1:-9223372036854775808<=n)(h2:n<=9223372036854775807):IntKind.i64.wrap n=n:=nL h1 h2
theorem jU(i:Nat)(h:i<9223372036854775807):IntKind.i64.wrap ((i:Int)+1)=((i+1:Nat):Int):=by rw[qf (by omega) (by omega)];rfl
theorem r7(i:Nat)(h0:0<i)(h:i<9223372036854775807):IntKind.i64.wrap ((i:Int)-1)=((i-1:Nat):Int):=by rw[qf (by omega) (by omega)];omega
theorem xz:1099511627776<=ia:=Nat.le_refl _
def fA(c:UInt8):dX->dX×dX×Bool
 |[]=>([],[],false)
 |b::s=>if b=c then([],s,true)else(b::(fA c s).1,(fA c s).2.1,(fA c s).2.2)
def lq(c:UInt8):dX->List dX
 |[]=>[[]]
 |b::s=>if b=c then []::lq c s else match lq c s with
  |[]=>[[b]]
  |h::t=>(b::h)::t
theorem H8{c:UInt8}:∀{s:dX},c∉s->fA c s=(s,[],false)
 |[],_=>rfl
 |b::s,h=>by
  have hb:b≠c:=fun e=>h (by simp[e])
  have ht:=H8 (s:=s) (c:=c) (fun h'=>h (mem_cons_of_mem _ h'));simp only[fA,if_neg hb,ht]
theorem BO{c:UInt8}:∀{s:dX},c∈s->(fA c s).2.2=true/\s=(fA c s).1++c::(fA c s).2.1/\c∉(fA c s).1
 |[],h=>by cases h
 |b::s,h=>by
  by_cases hb:b=c
  .subst hb;simp[fA]
  .have hm:c∈s:=by
    rcases mem_cons.1 h with rfl|h
    .exact absurd rfl hb
    .exact h
   obtain⟨h1,h2,h3⟩:=BO hm;simp only[fA,if_neg hb];refine⟨h1,by rw[cons_append,<-h2],?_⟩;intro h'
   rcases mem_cons.1 h' with rfl|h'
   .exact hb rfl
   .exact h3 h'
theorem IF{c:UInt8}:∀{s:dX},c∉s->lq c s=[s]
 |[],_=>rfl
 |b::s,h=>by
  have hb:b≠c:=fun e=>h (by simp[e])
  have ht:=IF (s:=s) (c:=c) (fun h'=>h (mem_cons_of_mem _ h'));simp only[lq,if_neg hb,ht]
theorem Ki{c:UInt8}:∀{a b:dX},c∉a->lq c (a++c::b)=a::lq c b
 |[],b,_=>by simp[lq]
 |x::a,b,h=>by
  have hx:x≠c:=fun e=>h (by simp[e])
  have:=Ki (a:=a) (b:=b) (c:=c) (fun h'=>h (mem_cons_of_mem _ h'));simp only[cons_append,lq,if_neg hx,this]
theorem lL(c:UInt8)(s:dX):lq c s=if (fA c s).2.2=true then(fA c s).1::lq c (fA c s).2.1 else [s]:=by
 by_cases h:c∈s
 .obtain⟨h1,h2,h3⟩:=BO h
  rw[if_pos h1]
  conv=>lhs;rw[h2]
  exact Ki h3
 .rw[H8 h]
  simpa using IF h
theorem q8(c:UInt8)(s:dX):(fA c s).1.length<=s.length/\(fA c s).2.1.length<=s.length/\((fA c s).2.2=true->(fA c s).1.length+(fA c s).2.1.length+1=s.length):=by
 by_cases h:c∈s
 .obtain⟨h1,h2,h3⟩:=BO h
  have:=congrArg List.length h2;simp only[length_append,length_cons]at this;exact⟨by omega,by omega,fun _=>by omega⟩
 .rw[H8 h];simp
def yc(s:dX)(c:UInt8):Int:=Lib.indexByte s c
theorem pD(c:UInt8):∀s:dX,yc s c=if c∈s then((fA c s).1.length:Int)else -1
 |[]=>rfl
 |b::s=>by
  have ih:=pD c s;unfold yc at *;unfold Lib.indexByte
  by_cases hb:b=c
  .subst hb;simp[fA]
  .rw[if_neg (by simpa using hb),ih]
   simp only[fA,if_neg hb,mem_cons,Ne.symm hb,false_or]
   by_cases h:c∈s
   .rw[if_pos h,if_pos h]
    simp
   .rw[if_neg h,if_neg h];rfl
theorem tH{c:UInt8}{s:dX}(h:c∈s):yc s c=((fA c s).1.length:Int):=by rw[pD,if_pos h]
theorem oD{c:UInt8}{s:dX}(h:c∈s):s.take (fA c s).1.length=(fA c s).1/\s.drop ((fA c s).1.length+1)=(fA c s).2.1:=by
 obtain⟨h1,h2,h3⟩:=BO h;generalize fA c s=q at h2|-;subst h2;constructor
 .exact take_left' rfl
 .rw[<-drop_drop,drop_left' rfl];rfl
theorem EM(c:UInt8):((([c]:dX).length:Nat):Int)=1:=rfl
theorem kE(s:dX)(c:UInt8):vc s (c.toNat:Int)=yc s c:=by
 unfold vc yc
 congr 1
 simp
theorem sM(s:dX)(c:UInt8):D4 s [c]=some (yc s c):=by
 unfold D4 G4
 by_cases h:s=[c]
 .subst h
  simp[yc,Lib.indexByte]
 .have:(decide (([c]:dX)=s))=false:=by simpa using fun e=>h e.symm
  simp only[this,EM,show decide ((1:Int)=0)=false from rfl,show decide ((1:Int)=1)=true from rfl,decide_true,Bool.or_false,cond_false,cond_true]
  show iC [c] ((0:Nat):Int) _=_
  rw[kF (by simp)];simp only[zg,getElem_cons_zero,kE]
theorem tJ(s:dX)(c:UInt8):Ca s [c]=some (yc s c):=by
 unfold Ca
 rw[sM];rfl
theorem un(s:dX)(c:UInt8):DD s [c]=some ((s.count c:Nat):Int):=by
 unfold DD;simp only[EM,show decide ((1:Int)=0)=false from rfl,show decide ((1:Int)=1)=true from rfl,decide_true,cond_false,cond_true]
 show iC [c] ((0:Nat):Int) _=_
 rw[kF (by simp)];unfold vJ;simp
theorem LQ{c:UInt8}{s:dX}(h:c∈s):(fA c s).2.1.count c+1=s.count c:=by
 obtain⟨h1,h2,h3⟩:=BO h
 conv=>rhs;rw[h2]
 rw[count_append,count_eq_zero_of_not_mem h3,count_cons_self];omega
theorem FW{α:Type}(l:List α)(i:Nat)(x:α)(h:i<l.length):(l.set i x).take (i+1)=l.take i++[x]:=by
 rw[take_succ_eq_append_getElem (by simpa using h)];simp[take_set_of_le]
theorem sH(s:dX)(c:UInt8)(hs:s.length<=17179869184):DE s [c]=some (lq c s):=by
 have hcl:=count_le_length (a:=c) (l:=s)
 have key:DG s [c] 0 (-1)=some (lq c s):=by
  unfold DG;obtain⟨N,hN⟩:∃N,ia=N:=⟨_,rfl⟩;have hN2:1099511627776<=N:=hN ▸ xz;rw[hN];clear hN
  have hmin:min ((s.count c+1:Nat):Int) ((s.length+1:Nat):Int)=((s.count c+1:Nat):Int):=by omega
  simp only[ft,un,zg,show decide ((-1:Int)=0)=false from rfl,show decide ((-1:Int)<0)=true from rfl,show decide (([c]:dX)=[])=false from rfl,cond_true,cond_false];simp only[jU (s.count c) (by omega),jU s.length (by omega),hmin];rw[zo (by omega)]
  have hw:IntKind.i64.wrap (((s.count c+1:Nat):Int)-1)=((s.count c:Nat):Int):=by rw[qf (by omega) (by omega)];omega
  simp only[hw,Int.toNat_natCast]
  refine(Gb (S:=dX×Int×List dX) (fun st=>∃i:Nat,st.2.1=i/\st.2.2.length=s.count c+1/\st.1.length<=s.length/\i+st.1.count c=s.count c) (fun st=>s.count c-st.2.1.toNat)
   (fun st=>some (st.2.2.take st.2.1.toNat++lq c st.1)) ?_ N _ ⟨0,rfl,by simp,Nat.le_refl _,by simp⟩ (by simp only;omega)).trans ?_
  .rintro⟨t,i',o⟩ nx ⟨i,rfl,ho,ht,hc⟩ hnx
   simp only at ho ht hc hnx|-;simp only[tJ,zg]
   by_cases hi:i<s.count c
   .have hmem:c∈t:=by rw[<-count_pos_iff];omega
    obtain⟨h1,h2,h3⟩:=BO hmem;have hl:=(q8 c t).2.2 h1;obtain⟨t1,t2⟩:=oD hmem;rw[decide_eq_true (by omega),cond_true,tH hmem,decide_eq_false (by omega),cond_false]
    have hw3:IntKind.i64.wrap (((fA c t).1.length:Int)+0)=((fA c t).1.length:Int):=by rw[qf (by omega) (by omega)];omega
    have hw4:IntKind.i64.wrap (((fA c t).1.length:Int)+(([c]:dX).length:Int))=(((fA c t).1.length+1:Nat):Int):=jU _ (by omega);simp only[hw3,hw4,jU i (by omega),Int.toNat_natCast];rw[zo (by omega),zo (by omega),zo (by omega)];have hdc:=LQ hmem;simp only[t1,t2];rw[hnx _ ⟨i+1,rfl,by simpa using ho,by simp only;omega,by simp only;omega⟩ (by simp only[Int.toNat_natCast];omega)];simp only[Int.toNat_natCast];rw[FW o i _ (by omega)]
    congr 1
    rw[show lq c t=(fA c t).1::lq c (fA c t).2.1 by rw[lL,if_pos h1]];simp
   .obtain rfl:i=s.count c:=by omega
    rw[decide_eq_false (by omega),cond_false]
    have hmem:c∉t:=by rw[<-count_pos_iff];omega
    rw[zo (by omega),jU _ (by omega)];simp only[Int.toNat_natCast,length_set];rw[zo (by omega),FW o _ _ (by omega),IF hmem]
  .simp
 unfold DE
 rw[key];rfl
def iO{α:Type}(q:Nat->α->Bool):Nat->List α->Bool
 |_,[]=>true
 |i,x::l=>q i x&&iO q (i+1) l
section
variable {Z α:Type}
end
def ir(c:UInt8):Bool:=decide (97<=(c.toNat:Int))&&decide ((c.toNat:Int)<=122)
def oC(c:UInt8):Bool:=decide (48<=(c.toNat:Int))&&decide ((c.toNat:Int)<=57)
def js(c:UInt8):Bool:=((ir c||oC c)||decide ((c.toNat:Int)=45))||decide ((c.toNat:Int)=46)
def g8(s:dX):Bool:=((s.all js&&(!decide (s=[])&&decide ((s.length:Int)<=40)))&&ir (s.getD 0 0))
theorem N9(a b:Bool):(a||bif !a then b else false)=(a||b):=by cases a <;> rfl
theorem MH(c:UInt8):Du (c.toNat:Int)=some (js c):=by
 unfold Du xN B1;simp only[zg,lg,N9];rfl
theorem xW(s:dX):oP s=some (g8 s):=by
 unfold oP Gl;simp only[ft];rw[BD js (fun i x nx k=>by simp only[MH,zg];cases js x <;> rfl)];simp only[u6,zg];rw[zo]
 .unfold xN
  simp only[lg];unfold g8 ir;generalize hA:s.all js=A
  cases A <;> simp only[cond_true,cond_false,Bool.false_and,Bool.true_and]
  generalize hB:(!decide (s=[])&&decide ((s.length:Int)<=40))=B
  cases B <;> rfl
 .intro h
  cases s with
  |nil=>cases hA:List.all [] js <;> rw[hA]at h <;> simp at h
  |cons=>simp only[length_cons];omega
def vY(c:UInt8):Bool:=decide (32<=(c.toNat:Int))&&decide ((c.toNat:Int)<=126)
def rC(s:dX):Bool:=s.all vY&&decide ((s.length:Int)<=1000)
theorem IQ(s:dX):B0 s=some (rC s):=by
 unfold B0 Gm;simp only[ft];rw[BD vY (fun i x nx k=>by unfold GC vY;simp only[zg];rw[pV,Bool.not_not])];simp only[u6,lg];unfold rC
 cases s with
 |nil=>rfl
 |cons x l=>simp only[show decide (x::l=[])=false from rfl,Bool.not_false,Bool.true_and,cond_true,Bool.false_or];cases List.all (x::l) vY <;> rfl
def pd(c:UInt8):Bool:=((((ir c||(decide (65<=(c.toNat:Int))&&decide ((c.toNat:Int)<=90)))||oC c)||decide ((c.toNat:Int)=45))||decide ((c.toNat:Int)=46))||decide ((c.toNat:Int)=95)
def iw(s:dX):Bool:=((s.all pd&&(!decide (s=[])&&decide ((s.length:Int)<=40)))&&!decide (s=[46]))&&!decide (s=[46,46])
theorem Jn(a b d:Bool):((a||b)||bif !(a||b)then d else false)=((a||b)||d):=by cases a <;> cases b <;> rfl
theorem LB(s:dX):Di s=some (iw s):=by
 unfold Di Gn;simp only[ft]
 rw[BD pd (fun i x nx k=>by
  unfold Gw pd xN B1 ir oC;simp only[zg,lg,Jn]
  rw[pV,Bool.not_not])]
 simp only[u6,zg];unfold iw
 cases s.all pd <;> rfl
def fE(s:dX):Bool:=(lq 47 s).all iw&&decide ((s.length:Int)<=200)
theorem yO(s:dX)(hs:s.length<=17179869184):vj s=some (fE s):=by
 unfold vj fE;simp only[ft,sH s 47 hs,zg];rw[BD iw (fun i x nx k=>by rw[LB,zg,pV,Bool.not_not])]
 cases (lq 47 s).all iw <;> rfl
def lH(a b:dX):Bool:=li a b||decide (a=b)
def Aq(a b:Int):Int:=bif !decide (a=0)then a else b
def gX(s:ab):Int:=bif !g8 s.k then 5 else bif !rC s.Value then 2 else 0
def fu(s:ab):Int:=bif !fE s.k then 5 else bif !rC s.Value then 2 else 0
def k8(f:aa):Int:=bif !fE f.a then 5 else bif decide (65536<(f.u.length:Int))then 4 else 0
def gk(s:ah):Int:=bif !g8 s.o||!fE s.a then 5 else 0
def lh(i:Nat)(a last:dX):Bool:=decide (0<(i:Int))&&lH a last
def la{α:Type}(e:α->Int)(nm:α->dX):Nat->dX->List α->Int
 |_,_,[]=>0
 |i,last,x::l=>bif !decide (e x=0)then e x else bif lh i (nm x) last then 7 else la e nm (i+1) (nm x) l
theorem Ih{α:Type}(e:α->Int)(nm:α->dX)(a b:dX)(l:List α):la e nm 0 a l=la e nm 0 b l:=by
 cases l <;> rfl
section
variable {Z α:Type} {e:α->Int} {nm:α->dX}
theorem pu{f:Nat->α->Unit->(Unit->Option Int)->(Unit->Option Int)->Option Int}{K:Unit->Option Int}(P:α->Prop)(L:List α)(d:α)
  (hf:∀(i:Nat) x nx k,P x->i<L.length->f i x () nx k=bif !decide (e x=0)then some (e x)else bif lh i (nm x) (nm (L.getD (i-1) d))then some 7 else nx ()) :
  ∀(l:List α) (i:Nat),L.drop i=l->(∀x∈l,P x)->forL l i f () K=bif !decide (la e nm i (nm (L.getD (i-1) d)) l=0)then some (la e nm i (nm (L.getD (i-1) d)) l)else K ()
 |[],i,_,_=>rfl
 |x::l,i,hd,hp=>by
  have hi:i<L.length:=by
   rcases Nat.lt_or_ge i L.length with h|h
   .exact h
   .rw[drop_eq_nil_of_le h]at hd;cases hd
  have hx:L.getD i d=x:=by
   have:=drop_eq_getElem_cons hi;rw[hd]at this;have:=(List.cons.inj this).1
   rw[this];simp[hi]
  have hd':L.drop (i+1)=l:=by
   have:=congrArg List.tail hd
   simpa using this
  unfold forL la;rw[hf _ _ _ _ (hp x (mem_cons_self ..)) hi,pu P L d hf l (i+1) hd' (fun y hy=>hp y (mem_cons_of_mem _ hy))];simp only[Nat.add_sub_cancel,hx]
  by_cases h1:e x=0
  .simp only[h1,decide_true,Bool.not_true,cond_false]
   cases lh i (nm x) (nm (L.getD (i-1) d)) <;> rfl
  .simp only[decide_eq_false h1,Bool.not_false,cond_true]
end
def Sm(s:dX):Prop:=s.length<=17179869184
theorem IK(f:aa)(h:Sm f.a):xO f=some (k8 f):=by
 unfold xO;rw[yO _ h];simp only[zg];unfold k8;cases fE f.a
 .rfl
 .simp only[Bool.not_true,cond_false,u6]
theorem uX(f:ab)(h:Sm f.k):Dp f=some (fu f):=by
 unfold Dp xX;rw[yO _ h,IQ];simp only[zg];unfold fu
 cases fE f.k <;> cases rC f.Value <;> rfl
theorem ry(f:ab):Do f=some (gX f):=by
 unfold Do GP;rw[xW,IQ];simp only[zg];unfold gX
 cases g8 f.k <;> cases rC f.Value <;> rfl
theorem nr(f:ah)(h:Sm f.a):Cb f=some (gk f):=by
 unfold Cb;rw[yO _ h,xW];simp only[zg,lg];unfold gk
 cases g8 f.o <;> cases fE f.a <;> rfl
theorem Ib{i:Nat}(h:0<i)(h2:i<=274877906944):IntKind.i64.wrap ((i:Int)-1)=((i-1:Nat):Int):=by rw[qf (by omega) (by omega)];omega
theorem Jm{i:Nat}{a b:dX}:(decide (0<(i:Int))&&(li a b||decide (a=b)))=lh i a b:=rfl
theorem ud(l:List ab)(hl:l.length<=17179869184):DZ l=some (la gX (·.k) 0 [] l):=by
 unfold DZ;simp only[ft]
 rw[pu (e:=gX) (nm:=(·.k)) (fun _=>True) l ⟨[],[]⟩ (fun i x nx k _ hi=>by
  rw[ry];simp only[zg,xH,lg]
  cases hg:decide (0<(i:Int))with
  |false=>rw[zo (by intro h;cases h)];unfold lh;rw[hg];rfl
  |true =>
   have hi0:0<i:=by simpa using hg
   rw[Ib hi0 (by omega),zo (by intro _;omega)];simp only[cond_true,Int.toNat_natCast]
   unfold lh lH;rw[hg]) l 0 rfl (fun _ _=>trivial)]
 rw[u6];rw[Ih gX (·.k) _ []];cases h:decide (la gX (·.k) 0 [] l=0)
 .rfl
 .rw[of_decide_eq_true h];rfl
theorem uc(l:List ab)(hl:l.length<=17179869184)(hs:∀x∈l,Sm x.k):Ch l=some (la fu (·.k) 0 [] l):=by
 unfold Ch;simp only[ft]
 rw[pu (e:=fu) (nm:=(·.k)) (fun x=>Sm x.k) l ⟨[],[]⟩ (fun i x nx k hx hi=>by
  rw[uX _ hx];simp only[zg,xH,lg]
  cases hg:decide (0<(i:Int))with
  |false=>rw[zo (by intro h;cases h)];unfold lh;rw[hg];rfl
  |true =>
   have hi0:0<i:=by simpa using hg
   rw[Ib hi0 (by omega),zo (by intro _;omega)];simp only[cond_true,Int.toNat_natCast]
   unfold lh lH;rw[hg]) l 0 rfl hs]
 rw[u6];rw[Ih fu (·.k) _ []];cases h:decide (la fu (·.k) 0 [] l=0)
 .rfl
 .rw[of_decide_eq_true h];rfl
theorem w5(l:List ah)(hl:l.length<=17179869184)(hs:∀x∈l,Sm x.a):Cg l=some (la gk (·.o) 0 [] l):=by
 unfold Cg;simp only[ft]
 rw[pu (e:=gk) (nm:=(·.o)) (fun x=>Sm x.a) l ⟨[],[],false,false⟩ (fun i x nx k hx hi=>by
  rw[nr _ hx];simp only[zg,C8,lg]
  cases hg:decide (0<(i:Int))with
  |false=>rw[zo (by intro h;cases h)];unfold lh;rw[hg];rfl
  |true =>
   have hi0:0<i:=by simpa using hg
   rw[Ib hi0 (by omega),zo (by intro _;omega)];simp only[cond_true,Int.toNat_natCast]
   unfold lh lH;rw[hg]) l 0 rfl hs]
 rw[u6];rw[Ih gk (·.o) _ []];cases h:decide (la gk (·.o) 0 [] l=0)
 .rfl
 .rw[of_decide_eq_true h];rfl
abbrev Mp:=List (dX×Bool)
def uU(m:Mp)(path:dX)(i:Nat)(c:UInt8):Bool:=!(decide ((c.toNat:Int)=47)&&(zu m (path.take i)).getD false)
def Bk(m:Mp)(path:dX):Bool:=iO (uU m path) 0 path
def xx:Nat->dX->Mp->List aa->Int
 |_,_,_,[]=>0
 |i,last,m,x::l=>bif !decide (k8 x=0)then k8 x else bif lh i x.a last then 7 else bif !Bk m x.a then 11 else xx (i+1) x.a (ec m x.a true) l
theorem Hf:∀(m:Mp) (k:dX) (v:Bool),(ec m k v).length<=m.length+1
 |[],k,v=>by simp[ec]
 |p::m,k,v=>by
  unfold ec;have:=Hf m k v
  cases decide (p.1=k) <;> simp <;> omega
theorem uV(path:dX)(m:Mp):B8 path m=some (Bk m path):=by
 unfold B8;simp only[ft]
 have hk:∀i:Nat,True:=fun _=>trivial
 have:∀(l:dX) (i:Nat),path.drop i=l->forL l i (fun i_44 c_46 s nx_43 k_42 =>
  dZ ((decide ((c_46.toNat:Int)=47))=true->(0<=(i_44:Int)/\(i_44:Int)<=(path.length:Int))) <|
  callG (decide ((c_46.toNat:Int)=47)) (DH (List.take i_44 path) m) false fun r_48 =>
  bif ((decide ((c_46.toNat:Int)=47))&&(!r_48))then
   some false
  else
  nx_43 ()) () (fun _=>some true)=some (iO (uU m path) i l):=by
  intro l
  induction l with
  |nil=>intro i _;rfl
  |cons c l ih =>
   intro i hd
   have hi:i<path.length:=by
    rcases Nat.lt_or_ge i path.length with h|h
    .exact h
    .rw[drop_eq_nil_of_le h]at hd;cases hd
   unfold forL iO;simp only[ih (i+1) (by have:=congrArg List.tail hd;simpa using this)];rw[zo (by intro _;omega)];simp only[DH,eA,lg];unfold uU
   cases decide ((c.toNat:Int)=47) <;> cases (zu m (List.take i path)).getD false <;> rfl
 exact this path 0 rfl
theorem tU{f:Nat->aa->dX×Mp->(dX×Mp->Option Int)->(dX×Mp->Option Int)->Option Int}{K:dX×Mp->Option Int}
  (hf:∀(i:Nat) x last (m:Mp) nx,Sm x.a->m.length+1<=17179869184->f i x (last,m) nx K=bif !decide (k8 x=0)then some (k8 x)else bif lh i x.a last then some 7 else bif !Bk m x.a then some 11 else nx (x.a,ec m x.a true)) :
  ∀(l:List aa) (i:Nat) (last:dX) (m:Mp),m.length+l.length<=17179869184->(∀x∈l,Sm x.a)->∃s',forL l i f (last,m) K=bif !decide (xx i last m l=0)then some (xx i last m l)else K s'
 |[],i,last,m,_,_=>⟨(last,m),rfl⟩
 |x::l,i,last,m,hm,hp=>by
  have ha:=Hf m x.a true;simp only[length_cons]at hm;obtain⟨s',h⟩:=tU hf l (i+1) x.a (ec m x.a true) (by omega) (fun y hy=>hp y (mem_cons_of_mem _ hy));refine⟨s',?_⟩;unfold forL xx;rw[hf _ _ _ _ _ (hp x (mem_cons_self ..)) (by omega),h]
  by_cases h1:k8 x=0
  .simp only[h1,decide_true,Bool.not_true,cond_false]
   cases lh i x.a last
   .cases Bk m x.a <;> rfl
   .rfl
  .simp only[decide_eq_false h1,Bool.not_false,cond_true]
def kX(m:aj):Int :=
 bif ((((decide (100<(m.q.length:Int)))||(decide (2000<(m.i.length:Int))))||(decide (2000<(m.n.length:Int))))||(decide (100<(m.m.length:Int))))then 4 else
 Aq (la gX (·.k) 0 [] m.q) (Aq (xx 0 [] [] m.i) (Aq (la fu (·.k) 0 [] m.n) (la gk (·.o) 0 [] m.m)))
structure FI(m:aj):Prop where
 facts:m.q.length<=17179869184
 files:m.i.length<=17179869184
 sets:m.n.length<=17179869184
 svcs:m.m.length<=17179869184
 fp:∀x∈m.i,Sm x.a
 sp:∀x∈m.n,Sm x.k
 vp:∀x∈m.m,Sm x.a
theorem Ht(a b:Int)(o:Option Int)(h:o=some b):(bif !decide (a=0)then some a else o)=some (Aq a b):=by
 subst h;unfold Aq;cases decide (a=0) <;> rfl
theorem DF(m:aj)(h:FI m):vQ m=some (kX m):=by
 unfold vQ kX;generalize ((((decide (100<(m.q.length:Int)))||(decide (2000<(m.i.length:Int))))||(decide (2000<(m.n.length:Int))))||(decide (100<(m.m.length:Int))))=B
 cases B with
 |true=>rfl
 |false =>
  simp only[cond_false];rw[ud _ h.facts,zg];refine Ht _ _ _ ?_;simp only[ft]
  obtain⟨s',hs⟩:=tU (f:=fun i_47 f_49 s nx_46 k_45 =>
   match s with
   |(before_37,m1_39) =>
    call (xO f_49) fun r_50 =>
    bif !decide (r_50=0)then
     some r_50
    else
    bif ((decide (0<(i_47:Int)))&&(li f_49.a before_37||decide (f_49.a=before_37)))then
     some 7
    else
    call (B8 f_49.a m1_39) fun r_51 =>
    bif !r_51 then
     some 11
    else
    dZ ((ec m1_39 f_49.a true).length<=274877906944) <|
    nx_46 (f_49.a,ec m1_39 f_49.a true)) (K:=fun s=>match s with
   |(before_37,m1_39)=>call (Ch m.n) fun r_28 =>
    bif !decide (r_28=0)then
     some r_28
    else
    call (Cg m.m) fun r_29 =>
    some r_29) (fun i x last mm nx hx hl=>by
    have ha:=Hf mm x.a true;simp only[IK _ hx,zg,uV,Jm]
    rw[zo (by omega)]) m.i 0 [] [] (by simpa using h.files) h.fp
  rw[hs];refine Ht _ _ _ ?_;obtain⟨x,y⟩:=s';simp only[uc _ h.sets h.sp,w5 _ h.svcs h.vp,zg];exact Ht _ _ _ rfl
def lp:aa:=⟨[],[],false⟩
def rz:ab:=⟨[],[]⟩
def qe:ah:=⟨[],[],false,false⟩
def ny(c:ai):Int :=
 bif decide (c.e=1)then k8 c.g else
 bif decide (c.e=2)then(bif !fE c.g.a then 5 else 0)else
 bif decide (c.e=3)then fu c.j else
 bif decide (c.e=4)then(bif !fE c.j.k then 5 else 0)else
 bif decide (c.e=5)then gk c.h else
 bif !g8 c.h.o then 5 else 0
def iA(c:ai):ai :=
 bif decide (c.e=1)then⟨c.e,c.g,rz,qe⟩else
 bif decide (c.e=2)then⟨c.e,⟨c.g.a,[],false⟩,rz,qe⟩else
 bif decide (c.e=3)then⟨c.e,lp,c.j,qe⟩else
 bif decide (c.e=4)then⟨c.e,lp,⟨c.j.k,[]⟩,qe⟩else
 bif decide (c.e=5)then⟨c.e,lp,rz,c.h⟩else
 ⟨c.e,lp,rz,⟨c.h.o,[],false,false⟩⟩
def Bo(c:ai):Bool:=decide (1<=c.e)&&decide (c.e<=6)
def yu(a b:aa):Bool:=decide (a.a=b.a)&&(decide (a.u=b.u)&&decide (a.w=b.w))
def iI(a b:ab):Bool:=decide (a.k=b.k)&&decide (a.Value=b.Value)
def iH(a b:ah):Bool:=decide (a.o=b.o)&&(decide (a.a=b.a)&&(decide (a.B=b.B)&&decide (a.A=b.A)))
def rJ(a b:ai):Bool:=(yu a.g b.g&&(iI a.j b.j&&iH a.h b.h))
theorem qV{a b:aa}(h:yu a b=true):a=b:=by
 obtain⟨a1,a2,a3⟩:=a;obtain⟨b1,b2,b3⟩:=b;simp only[yu,Bool.and_eq_true,decide_eq_true_eq]at h
 obtain⟨rfl,rfl,rfl⟩:=h;rfl
theorem tW{a b:ab}(h:iI a b=true):a=b:=by
 obtain⟨a1,a2⟩:=a;obtain⟨b1,b2⟩:=b;simp only[iI,Bool.and_eq_true,decide_eq_true_eq]at h
 obtain⟨rfl,rfl⟩:=h;rfl
theorem tV{a b:ah}(h:iH a b=true):a=b:=by
 obtain⟨a1,a2,a3,a4⟩:=a;obtain⟨b1,b2,b3,b4⟩:=b;simp only[iH,Bool.and_eq_true,decide_eq_true_eq]at h
 obtain⟨rfl,rfl,rfl,rfl⟩:=h;rfl
theorem tX{a b:ai}(hk:a.e=b.e)(h:rJ a b=true):a=b:=by
 obtain⟨a0,a1,a2,a3⟩:=a;obtain⟨b0,b1,b2,b3⟩:=b;simp only[rJ,Bool.and_eq_true]at h;obtain⟨h1,h2,h3⟩:=h;simp only at hk;rw[hk,qV h1,tW h2,tV h3]
def kQ(c:ai):Int:=bif !Bo c then 1 else bif decide (ny c=0)&&!rJ c (iA c)then 2 else ny c
structure rL(c:ai):Prop where
 fp:Sm c.g.a
 sp:Sm c.j.k
 vp:Sm c.h.a
theorem uY(f:ab)(h:Sm f.k):xX f=some (fu f):=by
 unfold xX;rw[yO _ h,IQ];simp only[zg];unfold fu
 cases fE f.k <;> cases rC f.Value <;> rfl
theorem qi:rC []=true:=rfl
theorem qX(p:dX):k8 ⟨p,[],false⟩=bif !fE p then 5 else 0:=by
 unfold k8
 cases fE p <;> rfl
theorem ue(p:dX):fu ⟨p,[]⟩=bif !fE p then 5 else 0:=by
 unfold fu;simp only[qi]
 cases fE p <;> rfl
theorem tD{n:Int}(h:(decide (1<=n)&&decide (n<=6))=true):n=1∨n=2∨n=3∨n=4∨n=5∨n=6:=by
 simp only[Bool.and_eq_true,decide_eq_true_eq]at h;omega
theorem AC{n:Int}(h:(decide (1<=n)&&decide (n<=6))=false):decide (n=1)=false/\decide (n=2)=false/\decide (n=3)=false/\decide (n=4)=false/\decide (n=5)=false/\decide (n=6)=false:=by
 simp only[Bool.and_eq_false_iff,decide_eq_false_iff_not]at h
 refine⟨?_,?_,?_,?_,?_,?_⟩ <;> (simp only[decide_eq_false_iff_not];omega)
theorem J0(c:ai)(h:rL c):Cc c=some (kQ c):=by
 unfold Cc kQ Bo;simp only[ft];cases hk:decide (1<=c.e)&&decide (c.e<=6)
 .obtain⟨h1,h2,h3,h4,h5,h6⟩:=AC hk
  rw[h1,h2,h3,h4,h5,h6];rfl
 .simp only[Bool.not_true,cond_false]
  rw[IK _ h.fp,IK _ (show Sm (aa.mk c.g.a [] false).a from h.fp),uY _ h.sp,uY _ (show Sm (ab.mk c.j.k []).k from h.sp),nr _ h.vp,xW];simp only[zg,qX,ue,decide_true,Bool.true_and];unfold ny iA
  rcases tD hk with e|e|e|e|e|e
  all_goals
   rw[e]
   simp only[show decide ((1:Int)=1)=true from rfl,show decide ((2:Int)=1)=false from rfl,show decide ((2:Int)=2)=true from rfl,show decide ((3:Int)=1)=false from rfl,show decide ((3:Int)=2)=false from rfl,show decide ((3:Int)=3)=true from rfl,show decide ((4:Int)=1)=false from rfl,show decide ((4:Int)=2)=false from rfl,show decide ((4:Int)=3)=false from rfl,show decide ((4:Int)=4)=true from rfl,
    show decide ((5:Int)=1)=false from rfl,show decide ((5:Int)=2)=false from rfl,show decide ((5:Int)=3)=false from rfl,show decide ((5:Int)=4)=false from rfl,show decide ((5:Int)=5)=true from rfl,show decide ((6:Int)=1)=false from rfl,show decide ((6:Int)=2)=false from rfl,show decide ((6:Int)=3)=false from rfl,show decide ((6:Int)=4)=false from rfl,show decide ((6:Int)=5)=false from rfl,show decide ((6:Int)=6)=true from rfl,decide_true,cond_true,cond_false]
   simp only[u6,rJ,yu,iI,iH,lp,rz,qe,decide_true,Bool.true_and,Bool.and_true,Bool.and_assoc]
  .rfl
  .rfl
  .rfl
  .rfl
  .rfl
  .cases g8 c.h.o <;> rfl
theorem CR{c:ai}(h:kQ c=0):Bo c=true/\ny c=0/\c=iA c:=by
 unfold kQ at h;cases hk:Bo c
 .rw[hk]at h;simp at h
 .rw[hk]at h
  simp only[Bool.not_true,cond_false]at h;cases hq:decide (ny c=0)&&!rJ c (iA c)
  .rw[hq,cond_false]at h
   rw[h]at hq;simp only[decide_true,Bool.true_and,Bool.not_eq_false']at hq;refine⟨rfl,h,tX ?_ hq⟩;unfold iA
   cases decide (c.e=1) <;> cases decide (c.e=2) <;> cases decide (c.e=3) <;> cases decide (c.e=4) <;> cases decide (c.e=5) <;> rfl
  .rw[hq]at h;simp at h
theorem D7(n:Nat)(h:n<18446744073709551616):IntKind.u64.wrap (n:Int)=n:=by
 unfold IntKind.wrap;simp only[IntKind.bits,IntKind.signed,Bool.false_and,Bool.false_eq_true,if_false];omega
theorem lv(n:Int):∃m:Nat,IntKind.u64.wrap n=m/\m<18446744073709551616:=by
 refine⟨(n % 18446744073709551616).toNat,?_,by omega⟩;unfold IntKind.wrap;simp only[IntKind.bits,IntKind.signed,Bool.false_and,Bool.false_eq_true,if_false];omega
theorem Ai(n c:Nat)(k:IntKind)(hc:c<=k.bits):Int.fdiv (n:Int) (2^(nY k (c:Int)))=((n / 2^c:Nat):Int):=by
 have:nY k (c:Int)=c:=by unfold nY;simp;omega
 rw[this,Int.fdiv_eq_ediv_of_nonneg _ (Int.le_of_lt (Int.pow_pos (by decide)))]
 rw[Int.natCast_ediv,Int.natCast_pow];rfl
theorem uQ(n c m:Nat)(h:n<18446744073709551616)(hm:m=2^c-1)(hc:c<64):qb .and .u64 (n:Int) (m:Int)=((n % 2^c:Nat):Int):=by
 subst hm;have h1:2^c<=2^63:=Nat.pow_le_pow_right (by decide) (by omega)
 show IntKind.u64.wrap (((BitVec.ofInt 64 (n:Int) &&& BitVec.ofInt 64 ((2^c-1:Nat):Int)).toNat:Nat):Int)=_
 rw[BitVec.toNat_and,BitVec.toNat_ofInt,BitVec.toNat_ofInt]
 have e1:((n:Int) % ((2^64:Nat):Int)).toNat=n:=by omega
 have e2:(((2^c-1:Nat):Int) % ((2^64:Nat):Int)).toNat=2^c-1:=by omega
 rw[e1,e2,Nat.and_two_pow_sub_one_eq_mod];exact D7 _ (Nat.lt_of_le_of_lt (Nat.mod_le _ _) h)
theorem jy{Z S α:Type}(g:S->α->S)(k:S->Option Z):∀(l:List α) (i:Nat) (s:S),forL l i (fun _ c s nx _=>nx (g s c)) s k=k (l.foldl g s)
 |[],_,_=>rfl
 |x::l,i,s=>by
  unfold forL;exact jy g k l (i+1) (g s x)
theorem Lz{α:Type}(n i:Nat)(f:Nat->α)(v:α):((List.range n).map f).set i v=(List.range n).map (fun j=>if j=i then v else f j):=by
 apply ext_getElem
 .simp
 .intro j h1 h2
  simp only[getElem_set,getElem_map,getElem_range]
  by_cases h:i=j
  .subst h;simp
  .rw[if_neg h,if_neg (Ne.symm h)]
theorem qr{α:Type}(l:List α)(f:α->UInt8):Go.Vc.strOf (l.map fun x=>((f x).toNat:Int))=l.map f:=by
 unfold Go.Vc.strOf;simp
def HXs:dX:=[48,49,50,51,52,53,54,55,56,57,97,98,99,100,101,102]
def dg(n:Nat):UInt8:=HXs.getD n 0
def hx:Nat->Nat->dX
 |0,_=>[]
 |k+1,n=>hx k (n / 16)++[dg (n % 16)]
def pG(h:Int)(c:UInt8):Int:=IntKind.u64.wrap ((qb .xor .u64 h (IntKind.u64.wrap (c.toNat:Int)))*1099511628211)
def yf(s:dX):Int:=s.foldl pG 14695981039346656037
def iZ(s:dX):dX:=hx 16 (yf s).toNat
theorem qL(s:dX):∃n:Nat,yf s=n/\n<18446744073709551616:=by
 have:∀(s:dX) (h:Int),(∃n:Nat,h=n/\n<18446744073709551616)->∃n:Nat,s.foldl pG h=n/\n<18446744073709551616:=by
  intro s
  induction s with
  |nil=>exact fun h hh=>hh
  |cons c s ih=>exact fun h _=>ih _ (lv _)
 exact this s _ ⟨14695981039346656037,rfl,by decide⟩
theorem AR{Z:Type}(m:Nat)(h:m<16)(k:Int->Option Z):iC HXs (m:Int) k=k ((dg m).toNat:Int):=by
 rw[kF (by simpa [HXs]using h)];simp only[dg,getD_eq_getElem?_getD,getElem?_eq_getElem (show m<HXs.length by simpa [HXs]using h),Option.getD_some]
theorem Jz(n:Nat):(List.range 16).map (fun j=>dg (n / 2^(60-4*j) % 16))=hx 16 n:=by
 simp only[hx,List.range,List.range.loop,map_cons,map_nil,Nat.div_div_eq_div_mul,nil_append,cons_append];simp
theorem yM(s:dX):rW s=some (iZ s):=by
 obtain⟨n,hn,hlt⟩:=qL s;unfold rW;obtain⟨N,hN⟩:∃N,ia=N:=⟨_,rfl⟩;have hF:1099511627776<=N:=hN ▸ xz;rw[hN]
 show forL s 0 (fun _ c h nx _=>nx (pG h c)) 14695981039346656037 _=_
 rw[jy]
 show jp _ (fun k_27=>loopN N _ _ _)=_
 rw[show s.foldl pG 14695981039346656037=(n:Int)from hn];unfold jp
 let arr:=fun i:Nat=>(List.range 16).map fun j=>if j<i then((dg (n / 2^(60-4*j) % 16)).toNat:Int)else 0
 refine(Gb (fun s=>∃i:Nat,s.1=(i:Int)/\i<=16/\s.2=arr i) (fun s=>16-s.1.toNat) (fun _=>some (iZ s)) ?_ N _ ⟨0,rfl,by omega,?_⟩ (by show 16-Int.toNat 0<N;simp;omega)).trans rfl
 .rintro⟨t,o⟩ nx ⟨i,h1,hi,h2⟩ hnx
  obtain rfl:t=i:=h1;obtain rfl:o=arr i:=h2;simp only[length_replicate]
  by_cases h:i<16
  .rw[Ft (decide_eq_true (by omega))]
   have e1:IntKind.i64.wrap (60-IntKind.i64.wrap (4*(i:Int)))=((60-4*i:Nat):Int):=by
    rw[qf (n:=4*(i:Int)) (by omega) (by omega),qf (by omega) (by omega)];omega
   rw[e1,zo (by omega),Ai _ _ _ (by simp only[IntKind.bits];omega)];rw[show(15:Int)=((15:Nat):Int)from rfl,uQ _ 4 15 (Nat.lt_of_le_of_lt (Nat.div_le_self _ _) hlt) (by decide) (by decide)]
   show iC HXs _ _=_
   rw[AR _ (Nat.mod_lt _ (by decide)),zo (by simp[arr];omega),jU i (by omega)];refine hnx _ ⟨i+1,rfl,by omega,?_⟩ ?_
   .show List.set (arr i) (Int.toNat (i:Int)) _=_
    rw[Int.toNat_natCast]
    show((List.range 16).map _).set i _=(List.range 16).map _
    rw[Lz];apply map_congr_left;intro j _
    by_cases hj:j=i
    .subst hj;rw[if_pos rfl,if_pos (by omega)]
    .rw[if_neg hj]
     by_cases hj':j<i
     .rw[if_pos hj',if_pos (by omega)]
     .rw[if_neg hj',if_neg (by omega)]
   .show 16-Int.toNat ((i+1:Nat):Int)<16-Int.toNat (i:Int)
    rw[Int.toNat_natCast,Int.toNat_natCast];omega
  .rw[Fu (decide_eq_false (by omega))]
   obtain rfl:i=16:=by omega
   show some (Go.Vc.strOf (arr 16))=_
   have:arr 16=(List.range 16).map fun j=>((dg (n / 2^(60-4*j) % 16)).toNat:Int):=by
    apply map_congr_left;intro j hj;rw[if_pos (mem_range.1 hj)]
   rw[this,qr,Jz];unfold iZ
   rw[hn];rfl
 .show List.replicate 16 (0:Int)=_
  apply ext_getElem
  .simp[arr]
  .intro j h1 h2
   rw[getElem_replicate];simp only[arr,getElem_map,getElem_range];rfl
theorem lG:∀a b:dX,li a b=decide (a<b)
 |[],[]=>by simp[li,Op.bytesLess]
 |_::_,[]=>by simp[li,Op.bytesLess]
 |[],_::_=>by simp[li,Op.bytesLess]
 |a::x,b::y=>by
  have ih:=lG x y;unfold li at *;rw[Op.bytesLess,ih,Bool.eq_iff_iff];simp[cons_lt_cons_iff]
theorem C5{a b c:dX}(h1:a<b)(h2:b<c):a<c:=List.lt_trans h1 h2
theorem yy(a:dX):¬ a<a:=List.lt_irrefl a
theorem j9(a b:dX):a<b∨a=b∨b<a:=by
 by_cases h1:a<b
 .exact .inl h1
 .by_cases h2:b<a
  .exact .inr (.inr h2)
  .exact .inr (.inl (List.le_antisymm (List.not_lt.1 h2) (List.not_lt.1 h1)))
theorem F6{a b:dX}(h1:a<b):¬ b<a:=fun h2=>yy a (C5 h1 h2)
theorem xq{a b:dX}(h1:a<b):a≠b:=fun e=>yy b (e ▸ h1)
theorem HL:∀a b:dX,(eI a b<0↔a<b)/\(eI a b=0↔a=b)
 |[],[]=>by simp[eI,Lib.compareBytes]
 |_::_,[]=>by simp[eI,Lib.compareBytes]
 |[],_::_=>by simp[eI,Lib.compareBytes]
 |a::x,b::y=>by
  have ih:=HL x y;unfold eI at *;rw[Lib.compareBytes,cons_lt_cons_iff]
  by_cases h:a<b
  .have:a≠b:=fun e=>by subst e;exact UInt8.lt_irrefl _ h
   simp[h,this]
  .by_cases h2:b<a
   .have:a≠b:=fun e=>by subst e;exact UInt8.lt_irrefl _ h2
    simp[h,h2,this]
   .have:a=b:=UInt8.le_antisymm (UInt8.not_lt.1 h2) (UInt8.not_lt.1 h)
    subst this
    simpa [h]using ih
theorem xc(a b:dX):decide (eI a b<0)=decide (a<b):=decide_eq_decide.2 (HL a b).1
theorem xd(a b:dX):decide (eI a b=0)=decide (a=b):=decide_eq_decide.2 (HL a b).2
theorem wj(a b:dX)(hb:b≠[]):a<a++b:=by
 induction a with
 |nil=>cases b with
  |nil=>exact absurd rfl hb
  |cons x b=>simp
 |cons x a ih=>rw[cons_append,cons_lt_cons_iff];exact .inr ⟨rfl,ih⟩
section
variable {K V:Type} [DecidableEq K]
theorem nf{m:List (K×V)}{p:K×V}{k:K}(h:¬ p.1=k):zu (p::m) k=zu m k:=by rw[zu,decide_eq_false h];rfl
theorem ng{m:List (K×V)}{p:K×V}{k:K}(h:p.1=k):zu (p::m) k=some p.2:=by rw[zu,decide_eq_true h];rfl
theorem xl{m:List (K×V)}{p:K×V}{k:K}{v:V}(h:¬ p.1=k):ec (p::m) k v=p::ec m k v:=by rw[ec,decide_eq_false h];rfl
theorem xm{m:List (K×V)}{p:K×V}{k:K}{v:V}(h:p.1=k):ec (p::m) k v=(k,v)::m:=by rw[ec,decide_eq_true h];rfl
theorem xo{m:List (K×V)}{p:K×V}{k:K}(h:¬ p.1=k):fe (p::m) k=p::fe m k:=by rw[fe,decide_eq_false h];rfl
theorem xp{m:List (K×V)}{p:K×V}{k:K}(h:p.1=k):fe (p::m) k=m:=by rw[fe,decide_eq_true h];rfl
theorem lf:∀(m:List (K×V)) (k:K) (v:V) (k':K),zu (ec m k v) k'=if k=k' then some v else zu m k'
 |[],k,v,k'=>by
  simp only[ec,zu]
  by_cases h:k=k' <;> simp[h]
 |p::m,k,v,k'=>by
  unfold ec
  by_cases h:p.1=k
  .rw[decide_eq_true h,cond_true]
   simp only[zu]
   by_cases h':k=k'
   .simp[h']
   .have:¬ p.1=k':=fun e=>h' (h ▸ e)
    simp[h',this]
  .rw[decide_eq_false h,cond_false]
   simp only[zu];rw[lf m k v k']
   by_cases h':k=k'
   .have:¬ p.1=k':=fun e=>h (e.trans h'.symm)
    simp[h',this]
   .simp only[if_neg h']
theorem alook_none:∀{m:List (K×V)} {k:K},zu m k=none↔k∉m.map (·.1)
 |[],k=>by simp[zu]
 |p::m,k=>by
  simp only[zu,map_cons,mem_cons]
  by_cases h:p.1=k
  .simp[h]
  .rw[decide_eq_false h,cond_false,alook_none]
   simp[Ne.symm h]
theorem mem_keys{m:List (K×V)}{k:K}:k∈m.map (·.1)↔(zu m k).isSome=true:=by
 have:=@alook_none K V _ m k
 cases h:zu m k with
 |none=>simpa using this.1 h
 |some v =>
  simp only[Option.isSome_some,iff_true]
  refine Classical.byContradiction fun hc=>?_
  rw[this.2 hc]at h;cases h
theorem HX:∀(m:List (K×V)) (k:K) (v:V),(ec m k v).map (·.1)=m.map (·.1)++if (zu m k).isSome then []else [k]
 |[],k,v=>by simp[ec,zu]
 |p::m,k,v=>by
  by_cases h:p.1=k
  .rw[xm h,ng h];simp[h]
  .rw[xl h,nf h,map_cons,HX m k v];rfl
theorem yJ{m:List (K×V)}(h:(m.map (·.1)).Nodup)(k:K)(v:V):((ec m k v).map (·.1)).Nodup:=by
 rw[HX];split
 .simpa using h
 .rename_i hs
  have:k∉m.map (·.1):=fun hk=>hs (mem_keys.1 hk)
  rw[nodup_append];exact⟨h,by simp,fun a ha b hb e=>by simp at hb;subst hb;subst e;exact this ha⟩
theorem xE(m:List (K×V))(k:K)(v:V):(ec m k v).length=m.length+if (zu m k).isSome then 0 else 1:=by
 have:=congrArg List.length (HX m k v);simp only[length_map,length_append]at this;rw[this]
 split <;> simp
theorem jQ:∀(m:List (K×V)) (k:K),((fe m k).map (·.1)).Sublist (m.map (·.1))
 |[],k=>by simp[fe]
 |p::m,k=>by
  simp only[fe]
  by_cases h:p.1=k
  .simp[h]
  .rw[decide_eq_false h,cond_false]
   exact(jQ m k).cons_cons _
theorem yI{m:List (K×V)}(h:(m.map (·.1)).Nodup)(k:K):((fe m k).map (·.1)).Nodup:=h.sublist (jQ m k)
theorem vP:∀{m:List (K×V)},(m.map (·.1)).Nodup->∀(k k':K),zu (fe m k) k'=if k=k' then none else zu m k'
 |[],_,k,k'=>by simp[fe,zu]
 |p::m,hn,k,k'=>by
  have hn':=nodup_cons.1 hn;simp only[fe]
  by_cases h:p.1=k
  .rw[decide_eq_true h,cond_true]
   by_cases h':k=k'
   .rw[if_pos h',alook_none.2]
    rw[<-h',<-h];exact hn'.1
   .rw[if_neg h']
    have:¬ p.1=k':=fun e=>h' (h ▸ e)
    simp only[zu];rw[decide_eq_false this,cond_false]
  .rw[decide_eq_false h,cond_false]
   simp only[zu];rw[vP hn'.2]
   by_cases h':k=k'
   .have:¬ p.1=k':=fun e=>h (e.trans h'.symm)
    simp[h',this]
   .simp only[if_neg h']
theorem mb:∀(m:List (K×V)) (k:K),m.length=(fe m k).length+if (zu m k).isSome then 1 else 0
 |[],k=>by simp[fe,zu]
 |p::m,k=>by
  by_cases h:p.1=k
  .rw[xp h,ng h];simp
  .rw[xo h,nf h,length_cons,length_cons]
   have:=mb m k;omega
end
section
variable {α S β:Type}
end
theorem qx(a b c:dX)(h1:decide (a<=b)=true)(h2:decide (b<=c)=true):decide (a<=c)=true:=by
 simp only[decide_eq_true_eq]at *;exact List.le_trans h1 h2
theorem qy(a b:dX):(decide (a<=b)||decide (b<=a))=true:=by
 simp only[Bool.or_eq_true,decide_eq_true_eq];exact List.le_total a b
theorem Iq(l:List dX):(sortS l).Perm l:=mergeSort_perm l _
theorem sI{l:List dX}(h:l.Nodup):(sortS l).Pairwise (·<·):=by
 have h1:(sortS l).Pairwise fun a b=>decide (a<=b)=true:=pairwise_mergeSort qx qy l
 have h2:(sortS l).Pairwise (·≠·):=(Iq l).symm.nodup h;refine List.Pairwise.imp₂ (fun a b h3 h4=>?_) h1 h2;simp only[decide_eq_true_eq]at h3
 rcases j9 a b with h|h|h
 .exact h
 .exact absurd h h4
 .exact absurd h3 (List.not_le.2 h)
section
variable {V A:Type}
def oL(m:List (dX×V)):List dX:=sortS (m.map (·.1))
theorem mem_keysM{m:List (dX×V)}{k:dX}:k∈oL m↔(zu m k).isSome=true:=by
 unfold oL;rw[(Iq _).mem_iff,mem_keys]
theorem ju(m:List (dX×V)):(oL m).length=m.length:=by
 unfold oL;rw[(Iq _).length_eq,length_map]
def eU(key:A->dX)(l:List A):Prop:=l.Pairwise fun a b=>key a<key b
def lk(key:A->dX)(l:List A)(k:dX):Option A:=l.find? fun x=>decide (key x=k)
variable {key:A->dX}
theorem jX{l:List A}{k:dX}{x:A}(h:lk key l k=some x):x∈l/\key x=k:=by
 unfold lk at h;exact⟨mem_of_find?_eq_some h,by simpa using find?_some h⟩
theorem oW{l:List A}(hs:eU key l){x y:A}(hx:x∈l)(hy:y∈l)(h:key x=key y):x=y:=by
 induction l with
 |nil=>cases hx
 |cons z l ih =>
  have hs':=pairwise_cons.1 hs
  rcases mem_cons.1 hx with e|hx' <;> rcases mem_cons.1 hy with e'|hy'
  .rw[e,e']
  .subst e;exact absurd h (xq (hs'.1 y hy'))
  .subst e';exact absurd h.symm (xq (hs'.1 x hx'))
  .exact ih hs'.2 hx' hy'
theorem kx{l:List A}(hs:eU key l){x:A}(hx:x∈l):lk key l (key x)=some x:=by
 cases h:lk key l (key x)with
 |none =>
  unfold lk at h;have:=find?_eq_none.1 h x hx;simp at this
 |some y =>
  obtain⟨h1,h2⟩:=jX h;rw[oW hs h1 hx h2]
theorem lk_none{l:List A}{k:dX}:lk key l k=none↔∀x∈l,key x≠k:=by
 unfold lk;simp
theorem BV{l:List A}(hs:eU key l):l.Nodup:=List.Pairwise.imp (R:=fun a b=>key a<key b) (S:=fun a b=>a≠b) (fun h e=>by subst e;exact yy _ h) hs
theorem FO{l l':List A}(h:eU key l)(h':eU key l')(he:∀k,lk key l k=lk key l' k):l=l':=by
 have hm:∀x,x∈l↔x∈l':=fun x=>⟨fun hx=>(jX ((he _).symm.trans (kx h hx))).1,fun hx=>(jX ((he _).trans (kx h' hx))).1⟩
 exact List.Perm.eq_of_pairwise (fun a b _ _ h1 h2=>absurd h2 (F6 h1)) h h' ((perm_ext_iff_of_nodup (BV h) (BV h')).2 hm)
def jc(g:dX->V->A)(d:V)(m:List (dX×V)):List A:=(oL m).map fun k=>g k ((zu m k).getD d)
theorem j2(g:dX->V->A)(d:V)(m:List (dX×V)):(jc g d m).length=m.length:=by
 unfold jc;rw[length_map,ju]
theorem yz{g:dX->V->A}{d:V}{m:List (dX×V)}(hn:(m.map (·.1)).Nodup)(hk:∀k v,zu m k=some v->key (g k v)=k):eU key (jc g d m):=by
 unfold eU jc;rw[pairwise_map]
 refine(sI hn).imp_of_mem fun {a b} ha hb h=>?_
 have ha':=mem_keysM.1 (show a∈oL m from ha);have hb':=mem_keysM.1 (show b∈oL m from hb);obtain⟨v,hv⟩:=Option.isSome_iff_exists.1 ha';obtain⟨w,hw⟩:=Option.isSome_iff_exists.1 hb';rw[hv,hw,Option.getD_some,Option.getD_some,hk _ _ hv,hk _ _ hw];exact h
theorem xu{g:dX->V->A}{d:V}{m:List (dX×V)}(hk:∀k v,zu m k=some v->key (g k v)=k)(k:dX):lk key (jc g d m) k=(zu m k).map (g k):=by
 have h1:∀k'∈oL m,∃v,zu m k'=some v/\key (g k' ((zu m k').getD d))=k':=fun k' h=>by
  obtain⟨v,hv⟩:=Option.isSome_iff_exists.1 (mem_keysM.1 h);exact⟨v,hv,by rw[hv,Option.getD_some,hk _ _ hv]⟩
 cases h:zu m k with
 |none =>
  rw[Option.map_none,lk_none];intro x hx;obtain⟨k',hk',rfl⟩:=mem_map.1 hx;obtain⟨v,hv,he⟩:=h1 k' hk';rw[he];rintro rfl
  rw[h]at hv;cases hv
 |some v =>
  have hm:k∈oL m:=mem_keysM.2 (by rw[h];rfl)
  cases hl:lk key (jc g d m) k with
  |none =>
   have:=lk_none.1 hl _ (mem_map_of_mem hm);obtain⟨v',hv,he⟩:=h1 k hm;exact absurd he this
  |some x =>
   obtain⟨h2,h3⟩:=jX hl;obtain⟨k',hk',rfl⟩:=mem_map.1 h2;obtain⟨v',hv,he⟩:=h1 k' hk';rw[he]at h3;subst h3
   rw[h];rfl
def ins(key:A->dX)(x:A)(l:List A):List A:=l.filter (fun y=>decide (key y<key x))++x::l.filter fun y=>decide (key x<key y)
def hU(key:A->dX)(k:dX)(l:List A):List A:=l.filter fun y=>!decide (key y=k)
theorem mem_ins{l:List A}{x y:A}:y∈ins key x l↔y=x∨(y∈l/\key y≠key x):=by
 unfold ins;simp only[mem_append,mem_filter,decide_eq_true_eq,mem_cons];constructor
 .rintro(⟨h1,h2⟩|rfl|⟨h1,h2⟩)
  .exact .inr ⟨h1,xq h2⟩
  .exact .inl rfl
  .exact .inr ⟨h1,Ne.symm (xq h2)⟩
 .rintro(rfl|⟨h1,h2⟩)
  .exact .inr (.inl rfl)
  .rcases j9 (key y) (key x)with h|h|h
   .exact .inl ⟨h1,h⟩
   .exact absurd h h2
   .exact .inr (.inr ⟨h1,h⟩)
theorem mem_del{l:List A}{k:dX}{y:A}:y∈hU key k l↔y∈l/\key y≠k:=by
 unfold hU;simp
theorem vH{l:List A}(hs:eU key l)(x:A):eU key (ins key x l):=by
 unfold eU ins;rw[pairwise_append,pairwise_cons];refine⟨hs.filter _,⟨fun y hy=>by simpa using (mem_filter.1 hy).2,hs.filter _⟩,fun a ha b hb=>?_⟩
 have h1:key a<key x:=by simpa using (mem_filter.1 ha).2
 rcases mem_cons.1 hb with rfl|hb
 .exact h1
 .exact C5 h1 (by simpa using (mem_filter.1 hb).2)
theorem vG{l:List A}(hs:eU key l)(k:dX):eU key (hU key k l):=hs.filter _
theorem tu{l:List A}{k:dX}{o:Option A}(hs:eU key l)(h:∀x,o=some x↔x∈l/\key x=k):lk key l k=o:=by
 cases hl:lk key l k with
 |none =>
  cases ho:o with
  |none=>rfl
  |some x =>
   obtain⟨h1,h2⟩:=(h x).1 ho;exact absurd h2 (lk_none.1 hl x h1)
 |some x=>exact((h x).2 (jX hl)).symm
theorem tt{l:List A}(hs:eU key l){k:dX}{x:A}:lk key l k=some x↔x∈l/\key x=k:=⟨jX,fun h=>by obtain⟨h1,rfl⟩:=h;exact kx hs h1⟩
theorem Bu{l:List A}(hs:eU key l)(x:A)(k:dX):lk key (ins key x l) k=if key x=k then some x else lk key l k:=by
 refine tu (vH hs x) fun y=>?_
 rw[mem_ins];split
 .rename_i h
  subst h;constructor
  .intro h;cases h;exact⟨.inl rfl,rfl⟩
  .rintro⟨rfl|⟨h1,h2⟩,h3⟩
   .rfl
   .exact absurd h3 h2
 .rename_i h
  rw[tt hs];constructor
  .rintro⟨h1,rfl⟩;exact⟨.inr ⟨h1,fun e=>h e.symm⟩,rfl⟩
  .rintro⟨rfl|⟨h1,h2⟩,h3⟩
   .exact absurd h3 h
   .exact⟨h1,h3⟩
theorem Bp{l:List A}(hs:eU key l)(k k':dX):lk key (hU key k l) k'=if k=k' then none else lk key l k':=by
 refine tu (vG hs k) fun y=>?_
 rw[mem_del];split
 .rename_i h
  subst h;simp only[reduceCtorEq,false_iff];rintro⟨⟨_,h1⟩,h2⟩;exact h1 h2
 .rename_i h
  rw[tt hs];constructor
  .rintro⟨h1,rfl⟩;exact⟨⟨h1,fun e=>h e.symm⟩,rfl⟩
  .rintro⟨⟨h1,_⟩,h2⟩;exact⟨h1,h2⟩
theorem CG{l:List A}(hs:eU key l)(k:dX):l.length=(hU key k l).length+if (lk key l k).isSome then 1 else 0:=by
 induction l with
 |nil=>simp[hU,lk]
 |cons x l ih =>
  have hs':=pairwise_cons.1 hs;have ih:=ih hs'.2;unfold hU lk at *
  by_cases h:key x=k
  .have h0:∀y∈l,key y≠k:=fun y hy e=>xq (hs'.1 y hy) (h.trans e.symm)
   have h1:l.find? (fun x=>decide (key x=k))=none:=by simpa using h0
   rw[h1]at ih;simp only[filter_cons,find?_cons,h,decide_true,Bool.not_true,Bool.false_eq_true,if_false,if_true,Option.isSome_some,Option.isSome_none,length_cons]at *;omega
  .simp only[filter_cons,find?_cons,h,decide_false,Bool.not_false,if_true,length_cons]at *
   omega
theorem ky{l:List A}(hs:eU key l)(x:A):(ins key x l).length=l.length+if (lk key l (key x)).isSome then 0 else 1:=by
 have h1:=CG (vH hs x) (key x);rw[Bu hs,if_pos rfl]at h1
 have h2:hU key (key x) (ins key x l)=hU key (key x) l:=by
  refine FO (vG (vH hs x) _) (vG hs _) fun k=>?_
  rw[Bp (vH hs x),Bp hs,Bu hs];split
  .rfl
  .rfl
 rw[h2]at h1;have h3:=CG hs (key x);simp only[Option.isSome_some,if_true]at h1
 split at h3 <;> simp_all <;> omega
theorem Hi{g:dX->V->A}{d:V}{m:List (dX×V)}(hn:(m.map (·.1)).Nodup)(hk:∀k v,zu m k=some v->key (g k v)=k)(k:dX)(v:V)(hv:key (g k v)=k) :
  jc g d (ec m k v)=ins key (g k v) (jc g d m):=by
 have hk':∀k' v',zu (ec m k v) k'=some v'->key (g k' v')=k':=fun k' v' h=>by
  rw[lf]at h;split at h
  .rename_i e;subst e;cases h;exact hv
  .exact hk _ _ h
 refine FO (yz (yJ hn k v) hk') (vH (yz hn hk) _) fun k'=>?_
 rw[xu hk',Bu (yz hn hk),xu hk,lf,hv];split
 .rename_i e;subst e;rfl
 .rfl
theorem Hh{g:dX->V->A}{d:V}{m:List (dX×V)}(hn:(m.map (·.1)).Nodup)(hk:∀k v,zu m k=some v->key (g k v)=k)(k:dX) :
  jc g d (fe m k)=hU key k (jc g d m):=by
 have hk':∀k' v',zu (fe m k) k'=some v'->key (g k' v')=k':=fun k' v' h=>by
  rw[vP hn]at h;split at h
  .cases h
  .exact hk _ _ h
 refine FO (yz (yI hn k) hk') (vG (yz hn hk) _) fun k'=>?_
 rw[xu hk',Bp (yz hn hk),xu hk,vP hn]
 split <;> rfl
def gj(key:A->dX)(w:A->V)(l:List A):List (dX×V):=l.map fun x=>(key x,w x)
theorem m9(m:List (dX×V))(k:dX)(v:V)(h:k∉m.map (·.1)):ec m k v=m++[(k,v)]:=by
 induction m with
 |nil=>rfl
 |cons p m ih =>
  have h1:¬ p.1=k:=fun e=>h (by simp[e])
  rw[ec,decide_eq_false h1,cond_false,ih fun h'=>h (by simp at h'|-;exact .inr h')];rfl
theorem Hs(w:A->V)(l:List A):(gj key w l).map (·.1)=l.map key:=by simp[gj,Function.comp_def]
theorem BT{w:A->V}{l:List A}(hs:eU key l):((gj key w l).map (·.1)).Nodup:=by
 rw[Hs];exact(pairwise_map.2 (hs.imp fun h=>xq h))
theorem yC{w:A->V}{l:List A}(k:dX):zu (gj key w l) k=(lk key l k).map w:=by
 unfold gj lk
 induction l with
 |nil=>rfl
 |cons x l ih =>
  simp only[map_cons,zu,find?_cons]
  by_cases h:key x=k
  .simp[h]
  .rw[decide_eq_false h,cond_false,ih]
theorem ku{Z:Type}{w:A->V}{f:Nat->A->List (dX×V)->(List (dX×V)->Option Z)->(List (dX×V)->Option Z)->Option Z}{k:List (dX×V)->Option Z}
  (hf:∀i x m nx k,f i x m nx k=dZ ((ec m (key x) (w x)).length<=274877906944) (nx (ec m (key x) (w x)))) {l:List A} (hs:eU key l) (hl:l.length<=274877906944) :
  forL l 0 f [] k=k (gj key w l):=by
 have:∀(a b:List A) (i:Nat),l=a++b->forL b i f (gj key w a) k=k (gj key w l):=by
  intro a b
  induction b generalizing a with
  |nil=>intro i e;rw[append_nil]at e;subst e;rfl
  |cons x b ih =>
   intro i e;unfold forL
   have hx:key x∉(gj key w a).map (·.1):=by
    rw[Hs];intro h;obtain⟨y,hy,hyx⟩:=mem_map.1 h;have h1:=hs;unfold eU at h1;rw[e,pairwise_append]at h1;exact xq (h1.2.2 y hy x (mem_cons_self ..)) hyx
   have hap:ec (gj key w a) (key x) (w x)=gj key w (a++[x]):=by
    rw[m9 _ _ _ hx];simp[gj]
   rw[hf,hap,zo]
   .exact ih (a++[x]) (i+1) (by rw[e];simp)
   .have:=congrArg List.length e
    simp only[length_append,length_cons]at this;simp only[gj,length_map,length_append,length_cons,length_nil];omega
 exact this [] l 0 rfl
theorem oR{w:A->V}{g:dX->V->A}{d:V}{l:List A}(hs:eU key l)(hg:∀x∈l,g (key x) (w x)=x):jc g d (gj key w l)=l:=by
 have hk:∀k v,zu (gj key w l) k=some v->key (g k v)=k:=fun k v h=>by
  rw[yC]at h;obtain⟨x,hx,rfl⟩:=Option.map_eq_some_iff.1 h;obtain⟨h1,rfl⟩:=jX hx;rw[hg x h1]
 refine FO (yz (BT hs) hk) hs fun k=>?_
 rw[xu hk,yC]
 cases h:lk key l k with
 |none=>rfl
 |some x =>
  obtain⟨h1,rfl⟩:=jX h;simp[hg x h1]
theorem Ic{Z:Type}{g:dX->V->A}{d:V}{m:List (dX×V)}{f:Nat->dX->List A->(List A->Option Z)->(List A->Option Z)->Option Z}{k:List A->Option Z}
  (hf:∀i x o nx k,f i x o nx k=dZ ((o++[g x ((zu m x).getD d)]).length<=274877906944) (nx (o++[g x ((zu m x).getD d)]))) (hl:m.length<=274877906944) :
  forL (oL m) 0 f [] k=k (jc g d m):=by
 have hk:=ju m
 have:∀(a b:List dX) (i:Nat),oL m=a++b->forL b i f (a.map fun x=>g x ((zu m x).getD d)) k=k (jc g d m):=by
  intro a b
  induction b generalizing a with
  |nil=>intro i e;rw[append_nil]at e;unfold jc;rw[e];rfl
  |cons x b ih =>
   intro i e;have h0:=congrArg List.length e;simp only[length_append,length_cons]at h0;unfold forL;rw[hf,zo (by simp only[length_append,length_map,length_cons,length_nil];omega)];have:=ih (a++[x]) (i+1) (by rw[e];simp);rw[map_append]at this;exact this
 exact this [] _ 0 rfl
end
def eR(p d:dX):Bool:=decide (p.take (d.length+1)=d++[47])
theorem Hj{p d:dX}(h:eR p d=true):∃r,p=d++47::r:=by
 have:=of_decide_eq_true h;refine⟨p.drop (d.length+1),?_⟩
 conv=>lhs;rw[<-take_append_drop (d.length+1) p,this]
 simp
theorem vZ(d r:dX):eR (d++47::r) d=true:=by
 unfold eR;rw[decide_eq_true_eq,show d.length+1=(d++[47]).length by simp,show d++47::r=(d++[47])++r by simp,take_left]
theorem j1{p d:dX}(h:eR p d=true):d<p:=by
 obtain⟨r,rfl⟩:=Hj h;exact wj _ _ (by simp)
theorem undB_at{p d:dX}:eR p d=true↔∃i,∃h:i<p.length,p[i]=47/\d=p.take i:=by
 constructor
 .intro h
  obtain⟨r,rfl⟩:=Hj h;exact⟨d.length,by simp,by simp,by simp⟩
 .rintro⟨i,h,h1,rfl⟩
  have:p=p.take i++47::p.drop (i+1):=by
   rw[<-h1,<-drop_eq_getElem_cons h,take_append_drop]
  conv=>lhs;arg 1;rw[this]
  exact vZ _ _
theorem He{α:Type}{q:Nat->α->Bool}:∀(l:List α) (i:Nat),iO q i l=true↔∀j (h:j<l.length),q (i+j) l[j]=true
 |[],i=>by simp[iO]
 |x::l,i=>by
  unfold iO;rw[Bool.and_eq_true,He l (i+1)];constructor
  .rintro⟨h1,h2⟩ j hj
   cases j with
   |zero=>exact h1
   |succ j=>have:=h2 j (by simpa using hj);rw[show i+(j+1)=i+1+j by omega];exact this
  .intro h
   refine⟨h 0 (by simp),fun j hj=>?_⟩;have:=h (j+1) (by simpa using hj)
   rw[show i+1+j=i+(j+1)by omega];exact this
theorem p7(m:Mp)(p:dX):Bk m p=true↔∀d,eR p d=true->(zu m d).getD false=false:=by
 unfold Bk;rw[He];constructor
 .intro h d hd
  obtain⟨i,hi,h1,rfl⟩:=undB_at.1 hd;have:=h i hi;unfold uU at this;rw[Nat.zero_add,h1]at this
  simpa using this
 .intro h j hj
  unfold uU;rw[Nat.zero_add]
  cases hc:decide ((p[j].toNat:Int)=47)with
  |false=>rfl
  |true =>
   have h1:p[j]=47:=by
    have h2:p[j].toNat=47:=by simp only[decide_eq_true_eq]at hc;omega
    exact UInt8.toNat.inj h2
   rw[h _ (undB_at.2 ⟨j,hj,h1,rfl⟩)];rfl
theorem Ap(i:Nat)(a b:dX):lh i a b=(decide (0<i)&&!decide (b<a)):=by
 unfold lh lH;rw[lG]
 congr 1
 .exact decide_eq_decide.2 (by omega)
 .rw[Bool.eq_iff_iff]
  simp only[Bool.or_eq_true,decide_eq_true_eq,Bool.not_eq_true',decide_eq_false_iff_not];constructor
  .rintro(h|rfl)
   .exact F6 h
   .exact yy _
  .intro h
   rcases j9 a b with h1|h1|h1
   .exact .inl h1
   .exact .inr h1
   .exact absurd h1 h
section
variable {α:Type} {nm:α->dX}
def Hd(nm:α->dX)(i:Nat)(last:dX):List α->Prop
 |[]=>True
 |x::_=>0<i->last<nm x
theorem lJ{x:α}{l:List α}{i:Nat}:eU nm (x::l)↔Hd nm (i+1) (nm x) l/\eU nm l:=by
 unfold eU;rw[pairwise_cons]
 cases l with
 |nil=>simp[Hd]
 |cons y l =>
  simp only[Hd];constructor
  .rintro⟨h1,h2⟩;exact⟨fun _=>h1 y (mem_cons_self ..),h2⟩
  .rintro⟨h1,h2⟩
   refine⟨fun z hz=>?_,h2⟩
   rcases mem_cons.1 hz with rfl|hz
   .exact h1 (by omega)
   .exact C5 (h1 (by omega)) ((pairwise_cons.1 h2).1 z hz)
theorem ord_false{i:Nat}{x:α}{l:List α}{last:dX}:lh i (nm x) last=false↔Hd nm i last (x::l):=by
 rw[Ap];simp only[Hd,Bool.and_eq_false_iff,decide_eq_false_iff_not,Bool.not_eq_false',decide_eq_true_eq];constructor
 .rintro(h|h)
  .intro h';exact absurd h' h
  .exact fun _=>h
 .intro h
  by_cases hi:0<i
  .exact .inr (h hi)
  .exact .inl hi
theorem JW{e:α->Int}:∀(l:List α) (i:Nat) (last:dX),la e nm i last l=0↔(∀x∈l,e x=0)/\eU nm l/\Hd nm i last l
 |[],i,last=>by simp[la,eU,Hd]
 |x::l,i,last=>by
  unfold la
  by_cases h:e x=0
  .rw[decide_eq_true h,Bool.not_true,cond_false]
   cases ho:lh i (nm x) last with
   |true =>
    have:¬ Hd nm i last (x::l):=fun hh=>by rw[ord_false.2 hh]at ho;cases ho
    simp[this]
   |false =>
    have hh:=(ord_false (l:=l)).1 ho;rw[cond_false,JW l,lJ (i:=i)];simp only[mem_cons,forall_eq_or_imp,h,true_and,hh,and_true];constructor
    .rintro⟨h1,h2,h3⟩;exact⟨h1,h3,h2⟩
    .rintro⟨h1,h3,h2⟩;exact⟨h1,h2,h3⟩
  .rw[decide_eq_false h,Bool.not_false,cond_true]
   simp[h]
end
theorem JT:∀(l:List aa) (i:Nat) (last:dX) (m:Mp),xx i last m l=0 ↔
  (∀x∈l,k8 x=0)/\eU (·.a) l/\Hd (·.a) i last l/\(∀x∈l,∀d,eR x.a d=true->(zu m d).getD false=false)/\l.Pairwise fun y x=>eR x.a y.a=false
 |[],i,last,m=>by simp[xx,eU,Hd]
 |x::l,i,last,m=>by
  unfold xx
  by_cases h:k8 x=0
  .rw[decide_eq_true h,Bool.not_true,cond_false]
   cases ho:lh i x.a last with
   |true =>
    have:¬ Hd (·.a) i last (x::l):=fun hh=>by rw[(ord_false (nm:=fun x:aa=>x.a)).2 hh]at ho;cases ho
    simp[this]
   |false =>
    have hh:=(ord_false (nm:=fun x:aa=>x.a) (l:=l)).1 ho;rw[cond_false]
    cases ha:Bk m x.a with
    |false =>
     have:¬ ∀d,eR x.a d=true->(zu m d).getD false=false:=fun hh=>by rw[(p7 m x.a).2 hh]at ha;cases ha
     rw[Bool.not_false,cond_true];simp[this]
    |true =>
     have ha':=(p7 m x.a).1 ha;rw[Bool.not_true,cond_false,JT l,lJ (i:=i),pairwise_cons];simp only[mem_cons,forall_eq_or_imp,h,true_and,hh];constructor
     .rintro⟨h1,h2,h3,h4,h5⟩
      refine⟨h1,⟨h3,h2⟩,⟨ha',fun y hy d hd=>?_⟩,fun y hy=>?_,h5⟩
      .have:=h4 y hy d hd
       rw[lf]at this;split at this
       .cases this
       .exact this
      .cases hu:eR y.a x.a with
       |false=>rfl
       |true =>
        have:=h4 y hy _ hu;rw[lf,if_pos rfl]at this;cases this
     .rintro⟨h1,⟨h3,h2⟩,⟨_,h4⟩,h6,h5⟩
      refine⟨h1,h2,h3,fun y hy d hd=>?_,h5⟩;rw[lf];split
      .rename_i e
       subst e
       rw[h6 y hy]at hd;cases hd
      .exact h4 y hy d hd
  .rw[decide_eq_false h,Bool.not_false,cond_true]
   simp[h]
structure Good(m:aj):Prop where
 c1:m.q.length<=100
 c2:m.i.length<=2000
 c3:m.n.length<=2000
 c4:m.m.length<=100
 f1:∀x∈m.q,gX x=0
 f2:eU (·.k) m.q
 g1:∀x∈m.i,k8 x=0
 g2:eU (·.a) m.i
 g3:∀x∈m.i,∀y∈m.i,eR x.a y.a=false
 s1:∀x∈m.n,fu x=0
 s2:eU (·.k) m.n
 v1:∀x∈m.m,gk x=0
 v2:eU (·.o) m.m
theorem Cq{α:Type}{nm:α->dX}{l:List α}{last:dX}:Hd nm 0 last l:=by
 cases l with
 |nil=>trivial
 |cons x l=>intro h;omega
theorem tg(a b:Int):Aq a b=0↔a=0/\b=0:=by
 unfold Aq
 by_cases h:a=0
 .simp[h]
 .rw[decide_eq_false h,Bool.not_false,cond_true]
  simp[h]
theorem s4{l:List aa}(hs:eU (·.a) l):(l.Pairwise fun y x=>eR x.a y.a=false)↔∀x∈l,∀y∈l,eR x.a y.a=false:=by
 constructor
 .intro h
  induction l with
  |nil=>intro x hx;cases hx
  |cons z l ih =>
   have hs':=pairwise_cons.1 hs;have h':=pairwise_cons.1 h
   have irr:∀p:dX,eR p p=false:=fun p=>by
    cases hu:eR p p with
    |false=>rfl
    |true=>exact absurd (j1 hu) (yy _)
   have asy:∀a b:dX,a<b->eR a b=false:=fun a b hab=>by
    cases hu:eR a b with
    |false=>rfl
    |true=>exact absurd (j1 hu) (F6 hab)
   intro x hx y hy
   rcases mem_cons.1 hx with e|hx' <;> rcases mem_cons.1 hy with e'|hy'
   .rw[e,e'];exact irr _
   .subst e;exact asy _ _ (hs'.1 y hy')
   .subst e';exact h'.1 x hx'
   .exact ih hs'.2 h'.2 x hx' y hy'
 .intro h
  exact pairwise_iff_forall_sublist.2 fun {a b} hab=>h b (hab.subset (by simp)) a (hab.subset (by simp))
theorem BE(m:aj):kX m=0↔Good m:=by
 unfold kX
 cases hB:(((decide (100<(m.q.length:Int)))||(decide (2000<(m.i.length:Int))))||(decide (2000<(m.n.length:Int))))||(decide (100<(m.m.length:Int)))with
 |true =>
  simp only[cond_true];simp only[Bool.or_eq_true,decide_eq_true_eq]at hB;constructor
  .intro h;cases h
  .intro h
   have:=h.c1;have:=h.c2;have:=h.c3;have:=h.c4;omega
 |false =>
  simp only[Bool.or_eq_false_iff,decide_eq_false_iff_not]at hB;simp only[cond_false,tg,JW,JT];constructor
  .rintro⟨⟨a1,a2,_⟩,⟨b1,b2,_,_,b3⟩,⟨d1,d2,_⟩,e1,e2,_⟩
   exact⟨by omega,by omega,by omega,by omega,a1,a2,b1,b2,(s4 b2).1 b3,d1,d2,e1,e2⟩
  .intro h
   exact⟨⟨h.f1,h.f2,Cq⟩,⟨h.g1,h.g2,Cq,fun _ _ _ _=>rfl,(s4 h.g2).2 h.g3⟩,⟨h.s1,h.s2,Cq⟩,h.v1,h.v2,Cq⟩
theorem vi{p:dX}(h:fE p=true):p.length<=200:=by
 unfold fE at h;simp only[Bool.and_eq_true,decide_eq_true_eq]at h;omega
theorem BP{f:aa}(h:k8 f=0):fE f.a=true/\f.u.length<=65536:=by
 unfold k8 at h
 cases hp:fE f.a <;> rw[hp]at h
 .cases h
 .simp only[Bool.not_true,cond_false]at h
  by_cases hd:65536<(f.u.length:Int)
  .rw[decide_eq_true hd]at h;cases h
  .exact⟨rfl,by omega⟩
theorem HC{s:ab}(h:fu s=0):fE s.k=true/\rC s.Value=true:=by
 unfold fu at h
 cases hp:fE s.k <;> cases hv:rC s.Value <;> rw[hp,hv]at h <;> first|cases h;done|exact⟨rfl,rfl⟩
theorem HP{s:ah}(h:gk s=0):g8 s.o=true/\fE s.a=true:=by
 unfold gk at h
 cases hp:g8 s.o <;> cases hv:fE s.a <;> rw[hp,hv]at h <;> first|cases h;done|exact⟨rfl,rfl⟩
theorem Kj{p:dX}(h:rC p=true):p.length<=1000:=by
 unfold rC at h;simp only[Bool.and_eq_true,decide_eq_true_eq]at h;omega
theorem Good.fit{m:aj}(h:Good m):FI m:=by
 have:=h.c1;have:=h.c2;have:=h.c3;have:=h.c4;refine⟨by omega,by omega,by omega,by omega,fun x hx=>?_,fun x hx=>?_,fun x hx=>?_⟩
 .have:=vi (BP (h.g1 x hx)).1
  unfold Sm;omega
 .have:=vi (HC (h.s1 x hx)).1
  unfold Sm;omega
 .have:=vi (HP (h.v1 x hx)).2
  unfold Sm;omega
def th:aj:=⟨[],[],[],[]⟩
abbrev ic(l:List aa)(k:dX):=lk (fun x:aa=>x.a) l k
abbrev tx(l:List ab)(k:dX):=lk (fun x:ab=>x.k) l k
abbrev tw(l:List ah)(k:dX):=lk (fun x:ah=>x.o) l k
def u5(p:dX)(f:aa):Bool:=eR f.a p||eR p f.a
def gC(c:ai)(M:aj):Int×aj :=
 bif !decide (kQ c=0)then(kQ c,M)else
 bif decide (c.e=2)then(bif !(ic M.i c.g.a).isSome then(10,M)else(0,⟨M.q,hU (·.a) c.g.a M.i,M.n,M.m⟩))else
 bif decide (c.e=4)then(bif !(tx M.n c.j.k).isSome then(10,M)else(0,⟨M.q,M.i,hU (·.k) c.j.k M.n,M.m⟩))else
 bif decide (c.e=6)then(bif !(tw M.m c.h.o).isSome then(10,M)else(0,⟨M.q,M.i,M.n,hU (·.o) c.h.o M.m⟩))else
 bif decide (c.e=1)then(bif M.i.any (u5 c.g.a)then(11,M)else bif !(ic M.i c.g.a).isSome&&decide (2000<=(M.i.length:Int))then(4,M)else(0,⟨M.q,ins (·.a) c.g M.i,M.n,M.m⟩))else
 bif decide (c.e=3)then(bif !(tx M.n c.j.k).isSome&&decide (2000<=(M.n.length:Int))then(4,M)else(0,⟨M.q,M.i,ins (·.k) c.j M.n,M.m⟩))else
 (bif !(tw M.m c.h.o).isSome&&decide (100<=(M.m.length:Int))then(4,M)else(0,⟨M.q,M.i,M.n,ins (·.o) c.h M.m⟩))
def gM:List ai->aj->aj×Int
 |[],M=>(M,0)
 |c::l,M=>bif !decide ((gC c M).1=0)then(th,(gC c M).1)else gM l (gC c M).2
theorem FP:(decide ((1:Int)=1)=true/\decide ((1:Int)=2)=false/\decide ((1:Int)=3)=false/\decide ((1:Int)=4)=false/\decide ((1:Int)=5)=false/\decide ((1:Int)=6)=false) /\
  (decide ((2:Int)=1)=false/\decide ((2:Int)=2)=true/\decide ((2:Int)=3)=false/\decide ((2:Int)=4)=false/\decide ((2:Int)=5)=false/\decide ((2:Int)=6)=false) /\
  (decide ((3:Int)=1)=false/\decide ((3:Int)=2)=false/\decide ((3:Int)=3)=true/\decide ((3:Int)=4)=false/\decide ((3:Int)=5)=false/\decide ((3:Int)=6)=false) /\
  (decide ((4:Int)=1)=false/\decide ((4:Int)=2)=false/\decide ((4:Int)=3)=false/\decide ((4:Int)=4)=true/\decide ((4:Int)=5)=false/\decide ((4:Int)=6)=false) /\
  (decide ((5:Int)=1)=false/\decide ((5:Int)=2)=false/\decide ((5:Int)=3)=false/\decide ((5:Int)=4)=false/\decide ((5:Int)=5)=true/\decide ((5:Int)=6)=false) /\
  (decide ((6:Int)=1)=false/\decide ((6:Int)=2)=false/\decide ((6:Int)=3)=false/\decide ((6:Int)=4)=false/\decide ((6:Int)=5)=false/\decide ((6:Int)=6)=true):=by decide
theorem HB{c:ai}(h:kQ c=0):c.e=1∨c.e=2∨c.e=3∨c.e=4∨c.e=5∨c.e=6:=tD (CR h).1
theorem kO{c:ai}(h:kQ c=0)(hk:c.e=1):k8 c.g=0:=by
 have:=(CR h).2.1;unfold ny at this;rw[hk]at this;exact this
theorem pQ{c:ai}(h:kQ c=0)(hk:c.e=3):fu c.j=0:=by
 have:=(CR h).2.1;unfold ny at this;rw[hk]at this;exact this
theorem pP{c:ai}(h:kQ c=0)(hk:c.e=5):gk c.h=0:=by
 have:=(CR h).2.1;unfold ny at this;rw[hk]at this;exact this
theorem rb(p:dX):eR p p=false:=by
 cases hu:eR p p with
 |false=>rfl
 |true=>exact absurd (j1 hu) (yy _)
theorem H4{M:aj}(h:Good M)(c:ai):Good (gC c M).2:=by
 unfold gC
 by_cases he:kQ c=0
 .rw[decide_eq_true he,Bool.not_true,cond_false]
  have hc1:=h.c1;have hc2:=h.c2;have hc3:=h.c3;have hc4:=h.c4
  rcases HB he with e|e|e|e|e|e
  all_goals simp only[e,FP,decide_true,cond_true,cond_false]
  .cases ha:M.i.any (u5 c.g.a)
   .simp only[cond_false]
    cases hb:!(ic M.i c.g.a).isSome&&decide (2000<=(M.i.length:Int))
    .simp only[cond_false]
     have hcl:∀x∈M.i,eR x.a c.g.a=false/\eR c.g.a x.a=false:=fun x hx=>by
      have:=any_eq_false.1 ha x hx
      simpa [u5]using this
     refine { h with c2:=?_,g1:=?_,g2:=vH h.g2 _,g3:=?_ }
     .show(ins (fun x:aa=>x.a) c.g M.i).length<=2000
      rw[ky h.g2];simp only[Bool.and_eq_false_iff,Bool.not_eq_false',decide_eq_false_iff_not]at hb
      rcases hb with hb|hb
      .rw[if_pos hb];omega
      .split <;> omega
     .intro x hx
      rcases mem_ins.1 hx with rfl|⟨hx,_⟩
      .exact kO he e
      .exact h.g1 x hx
     .intro x hx y hy
      rcases mem_ins.1 hx with rfl|⟨hx,_⟩ <;> rcases mem_ins.1 hy with rfl|⟨hy,_⟩
      .exact rb _
      .exact(hcl y hy).2
      .exact(hcl x hx).1
      .exact h.g3 x hx y hy
    .exact h
   .exact h
  .cases hb:!(ic M.i c.g.a).isSome
   .simp only[cond_false]
    refine { h with c2:=?_,g1:=?_,g2:=vG h.g2 _,g3:=?_ }
    .have:=CG h.g2 c.g.a
     show(hU (fun x:aa=>x.a) c.g.a M.i).length<=2000
     omega
    .intro x hx;exact h.g1 x (mem_del.1 hx).1
    .intro x hx y hy;exact h.g3 x (mem_del.1 hx).1 y (mem_del.1 hy).1
   .exact h
  .cases hb:!(tx M.n c.j.k).isSome&&decide (2000<=(M.n.length:Int))
   .simp only[cond_false]
    refine { h with c3:=?_,s1:=?_,s2:=vH h.s2 _ }
    .show(ins (fun x:ab=>x.k) c.j M.n).length<=2000
     rw[ky h.s2];simp only[Bool.and_eq_false_iff,Bool.not_eq_false',decide_eq_false_iff_not]at hb
     rcases hb with hb|hb
     .rw[if_pos hb];omega
     .split <;> omega
    .intro x hx
     rcases mem_ins.1 hx with rfl|⟨hx,_⟩
     .exact pQ he e
     .exact h.s1 x hx
   .exact h
  .cases hb:!(tx M.n c.j.k).isSome
   .simp only[cond_false]
    refine { h with c3:=?_,s1:=?_,s2:=vG h.s2 _ }
    .have:=CG h.s2 c.j.k
     show(hU (fun x:ab=>x.k) c.j.k M.n).length<=2000
     omega
    .intro x hx;exact h.s1 x (mem_del.1 hx).1
   .exact h
  .cases hb:!(tw M.m c.h.o).isSome&&decide (100<=(M.m.length:Int))
   .simp only[cond_false]
    refine { h with c4:=?_,v1:=?_,v2:=vH h.v2 _ }
    .show(ins (fun x:ah=>x.o) c.h M.m).length<=100
     rw[ky h.v2];simp only[Bool.and_eq_false_iff,Bool.not_eq_false',decide_eq_false_iff_not]at hb
     rcases hb with hb|hb
     .rw[if_pos hb];omega
     .split <;> omega
    .intro x hx
     rcases mem_ins.1 hx with rfl|⟨hx,_⟩
     .exact pP he e
     .exact h.v1 x hx
   .exact h
  .cases hb:!(tw M.m c.h.o).isSome
   .simp only[cond_false]
    refine { h with c4:=?_,v1:=?_,v2:=vG h.v2 _ }
    .have:=CG h.v2 c.h.o
     show(hU (fun x:ah=>x.o) c.h.o M.m).length<=100
     omega
    .intro x hx;exact h.v1 x (mem_del.1 hx).1
   .exact h
 .rw[decide_eq_false he];exact h
abbrev gF:dX->aa->aa:=fun _ v=>v
abbrev gV:dX->ah->ah:=fun _ v=>v
theorem jH(l:List ab)(h:l.length<=274877906944):zO l=some l:=by
 unfold zO
 refine Gq ⟨false,fun h=>by cases h⟩ fun b hb=>?_
 cases b with
 |true=>rw[hb rfl];rfl
 |false=>rw[cond_false,zo (by simpa using h)];rfl
section
variable {m1:List (dX×aa)} {m2:List (dX×dX)} {m3:List (dX×ah)} {M:aj}
end
theorem J6(c:ai)(M:aj):(gC c M).2.q=M.q:=by
 unfold gC;generalize hg1:(!decide (kQ c=0))=b1;generalize decide (c.e=2)=b2;generalize decide (c.e=4)=b3;generalize decide (c.e=6)=b4;generalize decide (c.e=1)=b5;generalize decide (c.e=3)=b6
 cases b1 <;> cases b2 <;> cases b3 <;> cases b4 <;> cases b5 <;> cases b6 <;> simp only[cond_true,cond_false] <;> (first|rfl|(split <;> rfl)|skip)
 all_goals repeat' (first|rfl|(rw[Bool.cond_eq_ite];split))
def Ends{Z:Type}(m:Option Z)(P:Z->Prop):Prop:=∃z,m=some z/\P z
section
variable {Z A S α:Type} {P:Z->Prop}
theorem Ends.call{a:Option A}{k:A->Option Z}{Q:A->Prop}(h:Ends a Q)(hk:∀x,Q x->Ends (k x) P):Ends (Vc.call a k) P:=by
 obtain⟨x,rfl,hx⟩:=h;exact hk x hx
theorem oO{f:Nat->α->S->(S->Option Z)->(S->Option Z)->Option Z}{k:S->Option Z}(inv:Nat->List α->S->Prop)
  (h0:∀i s,inv i [] s->Ends (k s) P) (h1:∀i x l s nx,inv i (x::l) s->(∀s',inv (i+1) l s'->Ends (nx s') P)->Ends (f i x s nx k) P) :
  ∀(l:List α) (i:Nat) (s:S),inv i l s->Ends (forL l i f s k) P
 |[],i,s,h=>h0 i s h
 |x::l,i,s,h=>h1 i x l s _ h fun s' hs=>oO inv h0 h1 l (i+1) s' hs
theorem F4{f:S->(S->Option Z)->(S->Option Z)->Option Z}{k:S->Option Z}(inv:S->Prop)(mu:S->Nat)
  (h:∀s nx,inv s->(∀s',inv s'->mu s'<mu s->Ends (nx s') P)->Ends (f s nx k) P):∀(N:Nat) (s:S),inv s->mu s<N->Ends (loopN N f s k) P
 |0,s,_,hm=>by omega
 |N+1,s,hi,hm=>by
  unfold loopN
  exact h s _ hi fun s' hs' hlt=>F4 inv mu h N s' hs' (by omega)
theorem qG{f:S->(S->Option Z)->(S->Option Z)->Option Z}{k:S->Option Z}(inv:S->Prop)(mu:S->Nat)
  (h:∀s nx,inv s->(∀s',inv s'->mu s'<mu s->Ends (nx s') P)->Ends (f s nx k) P) (s:S) (hi:inv s) (hm:mu s<1099511627776):Ends (loopN ia f s k) P:=by
 obtain⟨N,hN⟩:∃N,ia=N:=⟨_,rfl⟩;have hN2:1099511627776<=N:=hN ▸ xz;rw[hN];exact F4 inv mu h N s hi (by omega)
end
theorem tN{α:Type}(o:List α)(i:Nat)(d:α)(h:i<o.length):o.getD i d∈o:=by
 simp only[getD_eq_getElem?_getD,getElem?_eq_getElem h,Option.getD_some];exact getElem_mem h
section
variable {a b d:Nat} {M:aj}
end
abbrev M4:=List ab×List aa×List ab×List ah
def m4(M:aj):M4:=(M.q,M.i,M.n,M.m)
theorem pW(a b:dX):vo a b=some (eI a b):=rfl
def fv(l:List aa)(d:dX):Int:=((l.filter fun f=>eR f.a d).length:Int)
def up(b:Bool)(n:Int):Int:=bif b then n else 0
theorem HO{l l':List aa}(h:l.Perm l')(d:dX):fv l d=fv l' d:=by
 unfold fv;rw[(h.filter _).length_eq]
theorem HN(f:aa)(l:List aa)(d:dX):fv (f::l) d=fv l d+up (eR f.a d) 1:=by
 unfold fv up;rw[filter_cons]
 cases eR f.a d <;> simp
section
variable {A:Type} {key:A->dX}
theorem tI{l:List A}(hs:eU key l)(x:A):(ins key x l).Perm (x::hU key (key x) l):=by
 refine(perm_ext_iff_of_nodup (BV (vH hs x)) ?_).2 fun y=>?_
 .rw[nodup_cons]
  exact⟨fun h=>(mem_del.1 h).2 rfl,BV (vG hs _)⟩
 .rw[mem_ins,mem_cons,mem_del]
theorem mP{l:List A}(hs:eU key l){k:dX}{x:A}(h:lk key l k=some x):l.Perm (x::hU key k l):=by
 obtain⟨h1,h2⟩:=jX h
 refine(perm_ext_iff_of_nodup (BV hs) ?_).2 fun y=>?_
 .rw[nodup_cons]
  exact⟨fun h=>(mem_del.1 h).2 h2,BV (vG hs _)⟩
 .rw[mem_cons,mem_del]
  constructor
  .intro hy
   by_cases e:key y=k
   .exact .inl (oW hs hy h1 (e.trans h2.symm))
   .exact .inr ⟨hy,e⟩
  .rintro(rfl|⟨hy,_⟩)
   .exact h1
   .exact hy
theorem mQ{l:List A}{k:dX}(h:lk key l k=none):hU key k l=l:=by
 unfold hU;rw[filter_eq_self];intro x hx;have:=lk_none.1 h x hx
 simpa using this
end
theorem mW{l:List aa}(hs:eU (·.a) l)(f:aa)(d:dX):fv (ins (·.a) f l) d=fv l d+up (!(ic l f.a).isSome&&eR f.a d) 1:=by
 rw[HO (tI hs f),HN]
 cases h:ic l f.a with
 |none=>rw[mQ h];rfl
 |some x =>
  rw[HO (mP hs h) d,HN,(jX h).2];simp[up]
theorem ut{l:List aa}(hs:eU (·.a) l)(k d:dX):fv (hU (·.a) k l) d=fv l d-up ((ic l k).isSome&&eR k d) 1:=by
 cases h:ic l k with
 |none=>rw[mQ h];simp[up]
 |some x =>
  rw[HO (mP hs h) d,HN,(jX h).2];simp only[Option.isSome_some,Bool.true_and];omega
theorem xa(l:List aa)(d:dX):0<=fv l d/\fv l d<=l.length:=by
 unfold fv;have:=length_filter_le (fun f:aa=>eR f.a d) l;omega
theorem ur(l:List aa)(p:dX):decide (0<fv l p)=l.any fun f=>eR f.a p:=by
 rw[Bool.eq_iff_iff,decide_eq_true_eq,any_eq_true];unfold fv;constructor
 .intro h
  obtain⟨x,hx⟩:=exists_mem_of_length_pos (by omega:0<(l.filter fun f=>eR f.a p).length);exact⟨x,(mem_filter.1 hx).1,(mem_filter.1 hx).2⟩
 .rintro⟨x,hx,h⟩
  have:=length_pos_of_mem (mem_filter (p:=fun f:aa=>eR f.a p) |>.2 ⟨hx,h⟩);omega
theorem sk{p d:dX}(h:eR p d=true):d.length<p.length:=by
 obtain⟨r,rfl⟩:=Hj h;simp
theorem jF(p:dX)(hp:p.length<=200)(n:Int)(hn:-1<=n/\n<=1)(o0:List ab)(a:List (dX×aa))(m:List (dX×Int))(hm:m.length<=137438953472)(hb:∀d,-4611686018427387904<=(zu m d).getD 0/\(zu m d).getD 0<=4611686018427387904)(b:List (dX×ab))(c:List (dX×ah)) :
  ∃m',Cj p n o0 a m b c=some m'/\m'.length<=m.length+200/\∀d,(zu m' d).getD 0=(zu m d).getD 0+up (eR p d) n:=by
 unfold Cj Gu
 have key:Ends (forL p 0 (fun i_71 c_73 (m3_65:List (dX×Int)) nx_70 (k_69:List (dX×Int)->Option (Bool×List (dX×Int))) =>
  dZ ((decide ((c_73.toNat:Int)=47))=true->(0<=(i_71:Int)/\(i_71:Int)<=(p.length:Int))) <|
  callG (decide ((c_73.toNat:Int)=47)) (DO (List.take i_71 p) o0 a m3_65 b c n) (false,m3_65) fun r_75 =>
  bif ((decide ((c_73.toNat:Int)=47))&&(!r_75.1))then
   some (false,r_75.2)
  else
  nx_70 r_75.2) m (fun m3_65=>some (true,m3_65))) (fun r=>r.2.length<=m.length+200/\∀d,(zu r.2 d).getD 0=(zu m d).getD 0+up (eR p d) n):=by
  refine oO (fun i r m3=>i+r.length=p.length/\p.drop i=r/\m3.length<=m.length+i/\∀d,(zu m3 d).getD 0=(zu m d).getD 0+up (eR p d&&decide (d.length<i)) n) (fun i s h=>?_) (fun i x r s nx h hnx=>?_) p 0 m ⟨by simp,by simp,by simp,fun d=>by simp[up]⟩
  .obtain⟨h1,h2,h3,h4⟩:=h
   simp only[length_nil]at h1;refine⟨_,rfl,by simp only;omega,fun d=>?_⟩;simp only;rw[h4]
   congr 2
   cases hu:eR p d with
   |false=>rfl
   |true=>have:=sk hu;simp;omega
  .obtain⟨h1,h2,h3,h4⟩:=h
   simp only[length_cons]at h1
   have hi:i<p.length:=by omega
   have hx:p[i]=x:=by
    have:=drop_eq_getElem_cons hi;rw[h2]at this;exact(List.cons.inj this).1.symm
   have hd':p.drop (i+1)=r:=by
    have:=congrArg List.tail h2
    simpa using this
   rw[zo (by intro _;omega)]
   cases hc:decide ((x.toNat:Int)=47)with
   |false =>
    rw[J4];simp only[Bool.false_and,cond_false];refine hnx _ ⟨by omega,hd',by omega,fun d=>?_⟩;rw[h4]
    congr 2
    cases hu:eR p d with
    |false=>rfl
    |true =>
     obtain⟨j,hj,hj1,rfl⟩:=undB_at.1 hu
     have hji:j≠i:=fun e=>by
      subst e;rw[hx]at hj1;rw[hj1]at hc;cases hc
     simp only[Bool.true_and,length_take];exact decide_eq_decide.2 (by omega)
   |true =>
    have h47:p[i]=47:=by
     rw[hx]
     have h5:x.toNat=47:=by simp only[decide_eq_true_eq]at hc;omega
     exact UInt8.toNat.inj h5
    rw[JP];unfold DO;have hl:=xE s (List.take i p) (IntKind.i64.wrap (((zu s (List.take i p)).getD 0)+n))
    have hl':(ec s (List.take i p) (IntKind.i64.wrap (((zu s (List.take i p)).getD 0)+n))).length<=s.length+1:=by split at hl <;> omega
    simp only[eA];rw[zo (by omega),zg];simp only[Bool.not_true,Bool.and_false,cond_false];refine hnx _ ⟨by omega,hd',by omega,fun d=>?_⟩;rw[lf];have hui:eR p (List.take i p)=true:=undB_at.2 ⟨i,hi,h47,rfl⟩
    by_cases e:List.take i p=d
    .subst e
     rw[if_pos rfl,Option.getD_some,h4]
     have hlen:(List.take i p).length=i:=by simp;omega
     have:=hb (List.take i p);rw[hlen,hui];simp only[Bool.true_and,Nat.lt_irrefl,decide_false,Nat.lt_succ_self,decide_true,up,cond_true,cond_false]
     rw[qf (by omega) (by omega)];omega
    .rw[if_neg e,h4]
     congr 2
     cases hu:eR p d with
     |false=>rfl
     |true =>
      obtain⟨j,hj,hj1,rfl⟩:=undB_at.1 hu
      have hji:j≠i:=fun e'=>e (by rw[e'])
      simp only[Bool.true_and,length_take];exact decide_eq_decide.2 (by omega)
 rw[ft];obtain⟨r,e,h1,h2⟩:=key;rw[e,zg];exact⟨_,rfl,h1,h2⟩
theorem ro(p:dX)(o0:List ab)(a:List (dX×aa))(m:List (dX×Int))(b:List (dX×ab))(c:List (dX×ah)) :
  Dy p o0 a m b c=some (iO (fun i x=>!(decide ((x.toNat:Int)=47)&&(zu a (p.take i)).isSome)) 0 p):=by
 unfold Dy;rw[ft]
 have:∀(l:dX) (i:Nat),p.drop i=l->forL l i (fun i_48 c_50 (s:Unit) nx_47 (k_46:Unit->Option Bool) =>
  dZ ((decide ((c_50.toNat:Int)=47))=true->(0<=(i_48:Int)/\(i_48:Int)<=(p.length:Int))) <|
  callG (decide ((c_50.toNat:Int)=47)) (D2 (List.take i_48 p) o0 a m b c) false fun r_52 =>
  bif ((decide ((c_50.toNat:Int)=47))&&(!r_52))then
   some false
  else
  nx_47 ()) () (fun _=>some true)=some (iO (fun i x=>!(decide ((x.toNat:Int)=47)&&(zu a (p.take i)).isSome)) i l):=by
  intro l
  induction l with
  |nil=>intro i _;rfl
  |cons x l ih =>
   intro i hd
   have hi:i<p.length:=by
    rcases Nat.lt_or_ge i p.length with h|h
    .exact h
    .rw[drop_eq_nil_of_le h]at hd;cases hd
   unfold forL iO;simp only[ih (i+1) (by have:=congrArg List.tail hd;simpa using this)];rw[zo (by intro _;omega)];simp only[D2,eA,lg]
   cases decide ((x.toNat:Int)=47) <;> cases (zu a (List.take i p)).isSome <;> rfl
 exact this p 0 rfl
structure Bn(b:Nat)(m1:List (dX×aa))(m2:List (dX×Int))(m3:List (dX×ab))(m4:List (dX×ah))(M:aj):Prop where
 n1:(m1.map (·.1)).Nodup
 n3:(m3.map (·.1)).Nodup
 n4:(m4.map (·.1)).Nodup
 k1:∀k v,zu m1 k=some v->v.a=k
 k3:∀k v,zu m3 k=some v->v.k=k
 k4:∀k v,zu m4 k=some v->v.o=k
 e1:jc gF lp m1=M.i
 e3:jc (fun _ v=>v) rz m3=M.n
 e4:jc gV qe m4=M.m
 l2:m2.length<=b
 cnt:∀d,(zu m2 d).getD 0=fv M.i d
section
variable {b:Nat} {m1:List (dX×aa)} {m2:List (dX×Int)} {m3:List (dX×ab)} {m4:List (dX×ah)} {M:aj}
theorem Bn.l1(h:Bn b m1 m2 m3 m4 M):m1.length=M.i.length:=by rw[<-h.e1,j2]
theorem Bn.l3(h:Bn b m1 m2 m3 m4 M):m3.length=M.n.length:=by rw[<-h.e3,j2]
theorem Bn.l4(h:Bn b m1 m2 m3 m4 M):m4.length=M.m.length:=by rw[<-h.e4,j2]
theorem Bn.look1(h:Bn b m1 m2 m3 m4 M)(k:dX):zu m1 k=ic M.i k:=by
 rw[<-h.e1];refine Eq.trans ?_ (xu (key:=fun x:aa=>x.a) (g:=gF) (d:=lp) h.k1 k).symm
 cases zu m1 k <;> rfl
theorem Bn.look3(h:Bn b m1 m2 m3 m4 M)(k:dX):zu m3 k=tx M.n k:=by
 rw[<-h.e3];refine Eq.trans ?_ (xu (key:=fun x:ab=>x.k) (g:=fun _ v=>v) (d:=rz) h.k3 k).symm
 cases zu m3 k <;> rfl
theorem Bn.look4(h:Bn b m1 m2 m3 m4 M)(k:dX):zu m4 k=tw M.m k:=by
 rw[<-h.e4];refine Eq.trans ?_ (xu (key:=fun x:ah=>x.o) (g:=gV) (d:=qe) h.k4 k).symm
 cases zu m4 k <;> rfl
theorem Bn.small(h:Bn b m1 m2 m3 m4 M)(hM:Good M)(d:dX):-4611686018427387904<=(zu m2 d).getD 0/\(zu m2 d).getD 0<=4611686018427387904:=by
 rw[h.cnt];have:=xa M.i d;have:=hM.c2;omega
theorem Bn.le(h:Bn b m1 m2 m3 m4 M){b':Nat}(hb:b<=b'):Bn b' m1 m2 m3 m4 M:={ h with l2:=Nat.le_trans h.l2 hb }
theorem yj(h:Bn b m1 m2 m3 m4 M)(hM:Good M)(hb:b<=137438953472)(f:aa)(hf:f.a.length<=200)(o0:List ab) :
  ∃a c,yS f o0 m1 m2 m3 m4=some (a,c)/\Bn (b+200) a c m3 m4 ⟨M.q,ins (·.a) f M.i,M.n,M.m⟩:=by
 have h1:=h.l1;have hc2:=hM.c2;have hl2:=h.l2;unfold yS;simp only[eA];have hla:=xE m1 f.a f
 have hla':(ec m1 f.a f).length<=274877906944:=by split at hla <;> omega
 have base:∀c:List (dX×Int),c.length<=b+200->(∀d,(zu c d).getD 0=fv (ins (·.a) f M.i) d)->Bn (b+200) (ec m1 f.a f) c m3 m4 ⟨M.q,ins (·.a) f M.i,M.n,M.m⟩:=fun c hc hcnt =>
  { h with
   n1:=yJ h.n1 _ _
   k1:=fun k v hv=>by
    rw[lf]at hv;split at hv
    .rename_i e;cases hv;exact e
    .exact h.k1 _ _ hv
   e1:=by rw[<-h.e1];exact Hi (key:=fun x:aa=>x.a) (g:=gF) h.n1 h.k1 _ _ rfl
   l2:=hc
   cnt:=hcnt }
 rw[h.look1]
 cases hs:(ic M.i f.a).isSome with
 |false =>
  obtain⟨m',e,q1,q2⟩:=jF f.a hf 1 ⟨by omega,by omega⟩ o0 m1 m2 (by omega) (h.small hM) m3 m4;simp only[Bool.not_false,cond_true];rw[e,zg,zo hla'];refine⟨_,_,rfl,base _ (by omega) fun d=>?_⟩
  rw[q2,h.cnt,mW hM.g2,hs];rfl
 |true =>
  simp only[Bool.not_true,cond_false];rw[zo hla'];refine⟨_,_,rfl,base _ (by omega) fun d=>?_⟩;rw[h.cnt,mW hM.g2,hs];simp[up]
theorem uZ(h:Bn b m1 m2 m3 m4 M)(hM:Good M)(hb:b<=137438953472)(p:dX)(hf:p.length<=200)(hp:(ic M.i p).isSome=true)(o0:List ab) :
  ∃a c,DK p o0 m1 m2 m3 m4=some (a,c)/\Bn (b+200) a c m3 m4 ⟨M.q,hU (·.a) p M.i,M.n,M.m⟩:=by
 have hl2:=h.l2;unfold DK;obtain⟨m',e,q1,q2⟩:=jF p hf (-1) ⟨by omega,by omega⟩ o0 (fe m1 p) m2 (by omega) (h.small hM) m3 m4;rw[e,zg]
 refine⟨_,_,rfl,{ h with
   n1:=yI h.n1 _
   k1:=fun k v hv=>by
    rw[vP h.n1]at hv;split at hv
    .cases hv
    .exact h.k1 _ _ hv
   e1:=by rw[<-h.e1];exact Hh (key:=fun x:aa=>x.a) (g:=gF) h.n1 h.k1 _
   l2:=by omega
   cnt:=fun d=>?_ }⟩
 show _=fv (hU (fun x:aa=>x.a) p M.i) d
 rw[q2,h.cnt,ut hM.g2,hp];simp only[Bool.true_and]
 cases eR p d <;> rfl
theorem Bn.put3(h:Bn b m1 m2 m3 m4 M)(f:ab):Bn (b+200) m1 m2 (ec m3 f.k f) m4 ⟨M.q,M.i,ins (·.k) f M.n,M.m⟩ :=
 { h.le (Nat.le_add_right _ _)with
  n3:=yJ h.n3 _ _
  k3:=fun k v hv=>by
   rw[lf]at hv;split at hv
   .rename_i e;cases hv;exact e
   .exact h.k3 _ _ hv
  e3:=by rw[<-h.e3];exact Hi (key:=fun x:ab=>x.k) (g:=fun _ v=>v) h.n3 h.k3 _ _ rfl }
theorem Bn.put4(h:Bn b m1 m2 m3 m4 M)(f:ah):Bn (b+200) m1 m2 m3 (ec m4 f.o f) ⟨M.q,M.i,M.n,ins (·.o) f M.m⟩ :=
 { h.le (Nat.le_add_right _ _)with
  n4:=yJ h.n4 _ _
  k4:=fun k v hv=>by
   rw[lf]at hv;split at hv
   .rename_i e;cases hv;exact e
   .exact h.k4 _ _ hv
  e4:=by rw[<-h.e4];exact Hi (key:=fun x:ah=>x.o) (g:=gV) h.n4 h.k4 _ _ rfl }
theorem Bn.del3(h:Bn b m1 m2 m3 m4 M)(k:dX):Bn (b+200) m1 m2 (fe m3 k) m4 ⟨M.q,M.i,hU (·.k) k M.n,M.m⟩ :=
 { h.le (Nat.le_add_right _ _)with
  n3:=yI h.n3 _
  k3:=fun k v hv=>by
   rw[vP h.n3]at hv;split at hv
   .cases hv
   .exact h.k3 _ _ hv
  e3:=by rw[<-h.e3];exact Hh (key:=fun x:ab=>x.k) (g:=fun _ v=>v) h.n3 h.k3 _ }
theorem Bn.del4(h:Bn b m1 m2 m3 m4 M)(k:dX):Bn (b+200) m1 m2 m3 (fe m4 k) ⟨M.q,M.i,M.n,hU (·.o) k M.m⟩ :=
 { h.le (Nat.le_add_right _ _)with
  n4:=yI h.n4 _
  k4:=fun k v hv=>by
   rw[vP h.n4]at hv;split at hv
   .cases hv
   .exact h.k4 _ _ hv
  e4:=by rw[<-h.e4];exact Hh (key:=fun x:ah=>x.o) (g:=gV) h.n4 h.k4 _ }
theorem oI(h:Bn b m1 m2 m3 m4 M)(hM:Good M)(p:dX)(o0:List ab):D5 p o0 m1 m2 m3 m4=some (M.i.any (u5 p)):=by
 unfold D5;rw[ro,zg];simp only[eA];rw[h.cnt,ur]
 congr 1
 have h1:(!iO (fun i x=>!(decide ((x.toNat:Int)=47)&&(zu m1 (p.take i)).isSome)) 0 p)=M.i.any fun f=>eR p f.a:=by
  rw[Bool.eq_iff_iff,Bool.not_eq_true',<-Bool.not_eq_true,He,any_eq_true];constructor
  .intro hh
   refine Classical.byContradiction fun hc=>hh fun j hj=>?_
   rw[Nat.zero_add]
   cases hx:decide ((p[j].toNat:Int)=47)with
   |false=>rfl
   |true =>
    have h47:p[j]=47:=by
     have h5:p[j].toNat=47:=by simp only[decide_eq_true_eq]at hx;omega
     exact UInt8.toNat.inj h5
    rw[h.look1]
    cases hl:ic M.i (p.take j)with
    |none=>rfl
    |some f =>
     obtain⟨q1,q2⟩:=jX hl;exact absurd ⟨f,q1,by rw[q2];exact undB_at.2 ⟨j,hj,h47,rfl⟩⟩ hc
  .rintro⟨f,hf,hu⟩ hall
   obtain⟨j,hj,h47,hd⟩:=undB_at.1 hu;have:=hall j hj;have hl:ic M.i f.a=some f:=kx hM.g2 hf;rw[Nat.zero_add,h47,h.look1,<-hd,hl]at this;cases this
 rw[h1,Bool.eq_iff_iff,Bool.or_eq_true,any_eq_true,any_eq_true,any_eq_true];constructor
 .rintro(⟨f,hf,hu⟩|⟨f,hf,hu⟩)
  .exact⟨f,hf,by unfold u5;rw[hu,Bool.or_true]⟩
  .exact⟨f,hf,by unfold u5;rw[hu];rfl⟩
 .rintro⟨f,hf,hu⟩
  unfold u5 at hu;rw[Bool.or_eq_true]at hu
  rcases hu with hu|hu
  .exact .inr ⟨f,hf,hu⟩
  .exact .inl ⟨f,hf,hu⟩
theorem JL(h:Bn b m1 m2 m3 m4 M)(hM:Good M)(hb:b<=137438953472)(c:ai)(hc:rL c)(o0:List ab) :
  ∃a1 a2 a3 a4,Cd c o0 m1 m2 m3 m4=some ((gC c M).1,a1,a2,a3,a4)/\Bn (b+200) a1 a2 a3 a4 (gC c M).2:=by
 have h1:=h.l1;have h3:=h.l3;have h4:=h.l4;have hc1:=hM.c1;have hc2:=hM.c2;have hc3:=hM.c3;have hc4:=hM.c4;have hst:Bn (b+200) m1 m2 m3 m4 M:=h.le (Nat.le_add_right _ _);unfold Cd gC;rw[J0 c hc,zg]
 by_cases he:kQ c=0
 .rw[decide_eq_true he,Bool.not_true,cond_false,cond_false]
  unfold GG D3 DX DW;simp only[ft,eA,h.look1,h.look3,h.look4,h1,h3,h4,oI h hM,zg];have hlF:IntKind.i64.wrap ((M.i.length:Int)+1)=((M.i.length+1:Nat):Int):=jU _ (by omega);have hlS:IntKind.i64.wrap ((M.n.length:Int)+1)=((M.n.length+1:Nat):Int):=jU _ (by omega);have hlV:IntKind.i64.wrap ((M.m.length:Int)+1)=((M.m.length+1:Nat):Int):=jU _ (by omega);have hdF:decide ((2000:Int)<((M.i.length+1:Nat):Int))=decide (2000<=(M.i.length:Int)):=decide_eq_decide.2 (by omega);have hdS:decide ((2000:Int)<((M.n.length+1:Nat):Int))=decide (2000<=(M.n.length:Int)):=decide_eq_decide.2 (by omega);have hdV:decide ((100:Int)<((M.m.length+1:Nat):Int))=decide (100<=(M.m.length:Int)):=decide_eq_decide.2 (by omega);have Cq:decide ((1:Int)<0)=false:=rfl
  rcases HB he with e|e|e|e|e|e
  all_goals simp only[e,FP,decide_true,cond_true,cond_false,hlF,hlS,hlV,hdF,hdS,hdV,Cq]
  .obtain⟨a,c',ep,hp⟩:=yj h hM hb c.g (vi (BP (kO he e)).1) o0
   rw[ep];cases M.i.any (u5 c.g.a)
   .cases (ic M.i c.g.a).isSome
    .cases decide (2000<=(M.i.length:Int))
     .exact⟨_,_,_,_,rfl,hp⟩
     .exact⟨_,_,_,_,rfl,hst⟩
    .exact⟨_,_,_,_,rfl,hp⟩
   .exact⟨_,_,_,_,rfl,hst⟩
  .have hpo:fE c.g.a=true:=by
    have:=(CR he).2.1;unfold ny at this;rw[e]at this;cases hp:fE c.g.a
    .rw[hp]at this;cases this
    .rfl
   cases hs:(ic M.i c.g.a).isSome
   .exact⟨_,_,_,_,rfl,hst⟩
   .obtain⟨a,c',ep,hp⟩:=uZ h hM hb c.g.a (vi hpo) hs o0
    rw[ep];exact⟨_,_,_,_,rfl,hp⟩
  .have ha:=xE m3 c.j.k c.j
   have ha':(ec m3 c.j.k c.j).length<=274877906944:=by split at ha <;> omega
   rw[zo ha'];cases (tx M.n c.j.k).isSome
   .cases decide (2000<=(M.n.length:Int))
    .exact⟨_,_,_,_,rfl,h.put3 _⟩
    .exact⟨_,_,_,_,rfl,hst⟩
   .exact⟨_,_,_,_,rfl,h.put3 _⟩
  .cases (tx M.n c.j.k).isSome
   .exact⟨_,_,_,_,rfl,hst⟩
   .exact⟨_,_,_,_,rfl,h.del3 _⟩
  .have ha:=xE m4 c.h.o c.h
   have ha':(ec m4 c.h.o c.h).length<=274877906944:=by split at ha <;> omega
   rw[zo ha'];cases (tw M.m c.h.o).isSome
   .cases decide (100<=(M.m.length:Int))
    .exact⟨_,_,_,_,rfl,h.put4 _⟩
    .exact⟨_,_,_,_,rfl,hst⟩
   .exact⟨_,_,_,_,rfl,h.put4 _⟩
  .cases (tw M.m c.h.o).isSome
   .exact⟨_,_,_,_,rfl,hst⟩
   .exact⟨_,_,_,_,rfl,h.del4 _⟩
 .rw[decide_eq_false he]
  exact⟨_,_,_,_,rfl,hst⟩
theorem rv(h:Bn b m1 m2 m3 m4 M)(hM:Good M):Ci M.q m1 m2 m3 m4=some M:=by
 have h1:=h.l1;have h3:=h.l3;have h4:=h.l4;have hc1:=hM.c1;have hc2:=hM.c2;have hc3:=hM.c3;have hc4:=hM.c4;unfold Ci GM GZ GY;rw[jH _ (by omega)];have e1:zR m1=some ():=rfl;have e2:zJ m3=some ():=rfl;have e3:zK m4=some ():=rfl;rw[e1,e2,e3];simp only[ft,zg];have f1:=Ic (Z:=List aa) (g:=gF) (d:=lp) (m:=m1) (k:=some) (fun _ _ _ _ _=>rfl) (by omega);have f2:=Ic (Z:=List ab) (g:=fun _ v=>v) (d:=rz) (m:=m3) (k:=some) (fun _ _ _ _ _=>rfl) (by omega);have f3:=Ic (Z:=List ah) (g:=gV) (d:=qe) (m:=m4) (k:=some) (fun _ _ _ _ _=>rfl) (by omega);rw[h.e1]at f1;rw[h.e3]at f2;rw[h.e4]at f3;refine(congrArg (fun q=>call q _) f1).trans ?_;rw[zg];refine(congrArg (fun q=>call q _) f2).trans ?_;rw[zg];refine(congrArg (fun q=>call q _) f3).trans ?_;rfl
end
theorem oF{M:aj}(h:Good M):∃m1 m2 m3 m4,Dq M=some (m1,m2,m3,m4,M.q)/\Bn 400000 m1 m2 m3 m4 M:=by
 have hc1:=h.c1;have hc2:=h.c2;have hc3:=h.c3;have hc4:=h.c4;unfold Dq;rw[jH _ (by omega),zg];simp only[ft]
 suffices hs:Ends (forL M.i 0 (fun i_198 f_200 (s:List (dX×aa)×List (dX×Int)) nx_197 (k_196:List (dX×aa)×List (dX×Int)->Option (List (dX×aa)×List (dX×Int)×List (dX×ab)×List (dX×ah)×List ab)) =>
   match s with
   |(m1_192,m2_193) =>
    call (yS f_200 M.q m1_192 m2_193 [] []) fun r_201 =>
    nx_197 (r_201.1,r_201.2)) ([],[]) (fun s=>match s with
   |(m1_117,m2_118) =>
    forL M.n 0 (fun i_183 s_185 m3_177 nx_182 k_181 =>
     dZ ((ec m3_177 s_185.k s_185).length<=274877906944) <|
     nx_182 (ec m3_177 s_185.k s_185)) [] fun m3_136 =>
    forL M.m 0 (fun i_167 s_169 m4_161 nx_166 k_165 =>
     dZ ((ec m4_161 s_169.o s_169).length<=274877906944) <|
     nx_166 (ec m4_161 s_169.o s_169)) [] fun m4_154 =>
    some (m1_117,m2_118,m3_136,m4_154,M.q))) fun z=>z=(z.1,z.2.1,z.2.2.1,z.2.2.2.1,M.q)/\Bn 400000 z.1 z.2.1 z.2.2.1 z.2.2.2.1 M by
  obtain⟨z,e,h1,h2⟩:=hs;exact⟨_,_,_,_,e.trans (congrArg some h1),h2⟩
 refine oO (fun i r s=>∃a,M.i=a++r/\a.length=i/\Bn (200*i) s.1 s.2 [] [] ⟨M.q,a,[],[]⟩) (fun i s hi=>?_) (fun i f r s nx hi hnx=>?_) M.i 0 ([],[]) ⟨[],rfl,rfl,?_⟩
 .obtain⟨a,e,hl,hb⟩:=hi
  rw[append_nil]at e;subst e;obtain⟨m1,m2⟩:=s;simp only;refine⟨(m1,m2,gj (·.k) id M.n,gj (·.o) id M.m,M.q),?_,rfl,?_⟩
  .refine(ku (key:=fun x:ab=>x.k) (w:=id) (fun _ _ _ _ _=>rfl) h.s2 (by omega)).trans ?_
   exact ku (key:=fun x:ah=>x.o) (w:=id) (fun _ _ _ _ _=>rfl) h.v2 (by omega)
  .refine { hb with n3:=BT h.s2,n4:=BT h.v2,k3:=fun k v hv=>?_,k4:=fun k v hv=>?_,e3:=oR h.s2 fun _ _=>rfl,e4:=oR h.v2 fun _ _=>rfl,l2:=Nat.le_trans hb.l2 (by omega) }
   .simp only at hv
    rw[yC]at hv;obtain⟨x,hx,rfl⟩:=Option.map_eq_some_iff.1 hv;exact(jX hx).2
   .simp only at hv
    rw[yC]at hv;obtain⟨x,hx,rfl⟩:=Option.map_eq_some_iff.1 hv;exact(jX hx).2
 .obtain⟨a,e,hl,hb⟩:=hi
  have hlen:=congrArg List.length e;simp only[length_append,length_cons]at hlen
  have hsub:∀x∈a,x∈M.i:=fun x hx=>by rw[e];exact mem_append_left _ hx
  have hsrt:eU (·.a) (a++f::r):=e ▸ h.g2;have hsa:eU (·.a) a:=(pairwise_append.1 hsrt).1;have hM':Good ⟨M.q,a,[],[]⟩:=⟨hc1,by simp only;omega,by simp,by simp,h.f1,h.f2,fun x hx=>h.g1 x (hsub x hx),hsa,fun x hx y hy=>h.g3 x (hsub x hx) y (hsub y hy),by simp,by simp[eU],by simp,by simp[eU]⟩
  have hf:f∈M.i:=by rw[e];simp
  obtain⟨p,c,ep,hp⟩:=yj hb hM' (by omega) f (vi (BP (h.g1 f hf)).1) M.q;obtain⟨m1,m2⟩:=s;simp only at ep|-;rw[ep,zg]
  have hins:ins (·.a) f a=a++[f]:=by
   unfold ins
   have h1:∀x∈a,x.a<f.a:=fun x hx=>(pairwise_append.1 hsrt).2.2 x hx f (mem_cons_self ..)
   rw[filter_eq_self.2 (fun x hx=>by simpa using h1 x hx),filter_eq_nil_iff.2 (fun x hx=>by simpa using F6 (h1 x hx))]
  refine hnx _ ⟨a++[f],by rw[e];simp,by simp[hl],?_⟩;have hp':=hp;rw[hins]at hp';exact hp'.le (by omega)
 .exact { n1:=by simp,n3:=by simp,n4:=by simp,k1:=fun k v hv=>(by cases hv),k3:=fun k v hv=>(by cases hv),k4:=fun k v hv=>(by cases hv),e1:=by simp[jc,oL,sortS],e3:=by simp[jc,oL,sortS],e4:=by simp[jc,oL,sortS],l2:=by simp,cnt:=fun d=>rfl }
theorem uN{M:aj}(hM:Good M)(l:List ai)(hl:∀c∈l,rL c)(hn:l.length<=134217728):C2 M l=some (gM l M):=by
 obtain⟨m1,m2,m3,m4,e,hw⟩:=oF hM;unfold C2;rw[e,zg];simp only[ft]
 have:∀(l:List ai) (i b:Nat) (m1:List (dX×aa)) (m2:List (dX×Int)) (m3:List (dX×ab)) (m4:List (dX×ah)) (N:aj),(∀c∈l,rL c)->b+200*l.length<=137438953472->Good N->N.q=M.q->Bn b m1 m2 m3 m4 N ->
   forL l i (fun i_38 c_40 s nx_37 k_36 =>
    match s with
    |(m3_30,m4_31,m5_32,m6_33) =>
     call (Cd c_40 M.q m3_30 m4_31 m5_32 m6_33) fun r_41 =>
     bif !decide (r_41.1=0)then
      some ((aj.mk [] [] [] []),r_41.1)
     else
     nx_37 (r_41.2.1,r_41.2.2.1,r_41.2.2.2.1,r_41.2.2.2.2)) (m1,m2,m3,m4) (fun s=>match s with
    |(m3_30,m4_31,m5_32,m6_33) =>
     call (Ci M.q m3_30 m4_31 m5_32 m6_33) fun r_25 =>
     some (r_25,(0:Int)))=some (gM l N):=by
  intro l
  induction l with
  |nil =>
   intro i b m1 m2 m3 m4 N _ _ hN hF hw;unfold forL;simp only
   rw[<-hF,rv hw hN,zg];rfl
  |cons c l ih =>
   intro i b m1 m2 m3 m4 N hc hb hN hF hw;simp only[length_cons]at hb;unfold forL;simp only;obtain⟨a1,a2,a3,a4,e,hw'⟩:=JL hw hN (by omega) c (hc c (mem_cons_self ..)) M.q;rw[e,zg];simp only[gM];rw[ih _ _ _ _ _ _ _ (fun x hx=>hc x (mem_cons_of_mem _ hx)) (by omega) (H4 hN c) ((J6 c N).trans hF) hw'];exact u6 _ _ _
 exact this l 0 400000 m1 m2 m3 m4 M hl (by omega) hM rfl hw
theorem BN{M:aj}(hM:Good M)(l:List ai)(hl:∀c∈l,rL c)(hn:l.length<=134217728):vk M l=some (gM l M):=by
 unfold vk
 rw[DF M hM.fit,zg,(BE M).2 hM,uN hM l hl hn,zg];rfl
theorem Gg{M:aj}(hM:Good M):∀(l:List ai),(gM l M).2=0->Good (gM l M).1/\(gM l M).1.q=M.q:=by
 intro l
 induction l generalizing M with
 |nil=>intro _;exact⟨hM,rfl⟩
 |cons c l ih =>
  intro h;unfold gM at h|-
  cases hd:decide ((gC c M).1=0)with
  |false =>
   rw[hd]at h;simp only[Bool.not_false,cond_true]at h
   rw[h]at hd;cases hd
  |true =>
   rw[hd]at h;simp only[Bool.not_true,cond_false]at h|-;have:=ih (H4 hM c) h;exact⟨this.1,this.2.trans (J6 c M)⟩
section
variable {A:Type} {key:A->dX}
end
theorem wX(i j:Nat)(h:i+j<=4611686018427387904):IntKind.i64.wrap (Int.fdiv (IntKind.u64.wrap (IntKind.i64.wrap ((i:Int)+(j:Int)))) (2^(nY .u64 1)))=(((i+j) / 2:Nat):Int):=by
 rw[show IntKind.i64.wrap ((i:Int)+(j:Int))=(i:Int)+(j:Int)from qf (by omega) (by omega)]
 have h1:IntKind.u64.wrap ((i:Int)+(j:Int))=((i+j:Nat):Int):=by
  simp only[IntKind.wrap,IntKind.bits,IntKind.signed];simp;omega
 have h2:(2:Int)^(nY .u64 1)=2:=by decide
 rw[h1,h2,Int.fdiv_eq_ediv_of_nonneg _ (by omega),qf (by omega) (by omega)];omega
section
variable {A:Type} {key:A->dX}
def JH(key:A->dX)(l:List A)(k:dX)(z:Int×Bool):Prop:=z.2=(lk key l k).isSome/\∃i:Nat,z.1=i/\i<=l.length/\∀x,lk key l k=some x->l[i]?=some x
theorem A7{Z:Type}{P:Z->Prop}{l:List A}(hs:eU key l)(hl:l.length<=1073741824)(k:dX)(d:A){f:Int×Int->(Int×Int->Option Z)->(Int×Int->Option Z)->Option Z}{K:Int×Int->Option Z}
  (hf:∀(i j:Nat) nx,i<=j->j<=l.length->f ((i:Int),(j:Int)) nx K=if h:i<j then(bif decide (key (l.getD ((i+j) / 2) d)<k)then nx ((((i+j) / 2+1:Nat):Int),(j:Int))else nx ((i:Int),(((i+j) / 2:Nat):Int)))else K ((i:Int),(j:Int)))
  (hK:∀i:Nat,i<=l.length->(∀p,p<i->key (l.getD p d)<k)->(∀p,i<=p->p<l.length->¬ key (l.getD p d)<k)->Ends (K ((i:Int),(i:Int))) P) :
  Ends (loopN ia f (0,(l.length:Int)) K) P:=by
 have hmono:∀p q,p<q->q<l.length->key (l.getD p d)<key (l.getD q d):=fun p q hp hq=>by
  have:=pairwise_iff_getElem.1 hs p q (by omega) hq hp
  simpa [getD_eq_getElem?_getD,show p<l.length by omega,hq]using this
 refine qG (fun st:Int×Int=>∃i j:Nat,st=((i:Int),(j:Int))/\i<=j/\j<=l.length/\(∀p,p<i->key (l.getD p d)<k)/\(∀p,j<=p->p<l.length->¬ key (l.getD p d)<k)) (fun st=>st.2.toNat-st.1.toNat) ?_ _ ⟨0,l.length,rfl,by omega,Nat.le_refl _,fun p h=>by omega,fun p h h'=>by omega⟩ (by simp only;omega);rintro st nx ⟨i,j,rfl,h1,h2,h3,h4⟩ hnx;rw[hf i j nx h1 h2];simp only at hnx
 by_cases hij:i<j
 .rw[dif_pos hij]
  by_cases hc:key (l.getD ((i+j) / 2) d)<k
  .rw[decide_eq_true hc,cond_true]
   refine hnx _ ⟨(i+j) / 2+1,j,rfl,by omega,h2,fun p hp=>?_,h4⟩ (by simp only;omega)
   by_cases hp2:p=(i+j) / 2
   .rw[hp2];exact hc
   .exact C5 (hmono p ((i+j) / 2) (by omega) (by omega)) hc
  .rw[decide_eq_false hc,cond_false]
   refine hnx _ ⟨i,(i+j) / 2,rfl,by omega,by omega,h3,fun p hp hp'=>?_⟩ (by simp only;omega)
   by_cases hp2:p=(i+j) / 2
   .rw[hp2];exact hc
   .exact fun h=>hc (C5 (hmono ((i+j) / 2) p (by omega) (by omega)) h)
 .rw[dif_neg hij]
  obtain rfl:i=j:=by omega
  exact hK i h2 h3 h4
theorem A8{l:List A}(hs:eU key l)(k:dX)(d:A){i:Nat}(hi:i<=l.length)(h1:∀p,p<i->key (l.getD p d)<k)(h2:∀p,i<=p->p<l.length->¬ key (l.getD p d)<k) :
  JH key l k ((i:Int),decide ((i:Int)<(l.length:Int))&&(decide ((i:Int)<(l.length:Int))&&decide (key (l.getD i d)=k))):=by
 have hget:∀p,p<l.length->l[p]?=some (l.getD p d):=fun p hp=>by simp[getD_eq_getElem?_getD,hp]
 have key1:∀x,lk key l k=some x->l[i]?=some x:=fun x hx=>by
  obtain⟨hm,hk⟩:=jX hx;obtain⟨p,hp,hpx⟩:=mem_iff_getElem.1 hm
  have hgp:l.getD p d=x:=by rw[<-hpx];simp[getD_eq_getElem?_getD,hp]
  have hlt:¬ p<i:=fun h=>by
   have:=h1 p h;rw[hgp,hk]at this;exact yy _ this
  by_cases hpi:p=i
  .subst hpi;rw[hget p hp,hgp]
  .have h3:=h2 i (Nat.le_refl _) (by omega)
   have h4:=pairwise_iff_getElem.1 hs i p (by omega) hp (by omega);rw[hpx]at h4;rw[hk]at h4;exact absurd (by simpa [getD_eq_getElem?_getD,show i<l.length by omega]using h4) h3
 refine⟨?_,i,rfl,hi,key1⟩;simp only
 cases hlk:lk key l k with
 |none =>
  have hn:=lk_none.1 hlk
  by_cases hil:i<l.length
  .rw[decide_eq_false (fun h=>hn _ (tN l i d hil) h)];simp
  .rw[decide_eq_false (by omega)];simp
 |some x =>
  have h3:=key1 x hlk;have hil:=(List.getElem?_eq_some_iff.1 h3).1;rw[hget i hil]at h3
  rw[decide_eq_true (by omega),decide_eq_true (by cases h3;exact(jX hlk).2)];rfl
end
def EI{A:Type}(o:Option A)(d:A):A×Bool:=match o with|some x=>(x,true)|none=>(d,false)
theorem Fz{A:Type}{key:A->dX}{l:List A}{k:dX}{z:Int×Bool}{none':A}(h:JH key l k z) :
  (bif !z.2 then some (none',false)else ye l z.1 fun s=>some (s,true))=some (EI (lk key l k) none'):=by
 obtain⟨h1,i,h2,h3,h4⟩:=h;rw[h1]
 cases hlk:lk key l k with
 |none=>rfl
 |some x =>
  have h5:=h4 x hlk;obtain⟨hil,hx⟩:=List.getElem?_eq_some_iff.1 h5;simp only[Option.isSome_some,Bool.not_true,cond_false]
  rw[h2,om hil,hx];rfl
theorem A9(l:List aa)(hs:eU (·.a) l)(hl:l.length<=1073741824)(k:dX):Ends (zz l k) (JH (·.a) l k):=by
 unfold zz;rw[ft];refine A7 (key:=fun x:aa=>x.a) hs hl k ⟨[],[],false⟩ (fun i j nx h1 h2=>?_) (fun i h1 h2 h3=>?_)
 .simp only[wX i j (by omega)]
  by_cases hij:i<j
  .rw[dif_pos hij,decide_eq_true (by omega),cond_true,om (by omega)]
   unfold Cf C9;simp only[zg,pW,xc,jU _ (show(i+j) / 2<9223372036854775807 by omega)];rw[show l.getD ((i+j) / 2) ⟨[],[],false⟩=l[(i+j) / 2]'(by omega)by simp[getD_eq_getElem?_getD,show(i+j) / 2<l.length by omega]]
  .rw[dif_neg hij,decide_eq_false (by omega),cond_false]
 .have:=A8 (key:=fun x:aa=>x.a) hs k ⟨[],[],false⟩ h1 h2 h3
  unfold Cf C9;simp only[zg,pW,lg,Int.toNat_natCast];rw[zo (by intro h;simp only[decide_eq_true_eq]at h;omega)];refine⟨_,rfl,?_⟩
  cases hd:decide ((i:Int)<(l.length:Int))with
  |false=>rw[hd]at this;simpa using this
  |true =>
   rw[hd]at this
   simpa [xd]using this
def Bf{A:Type}(ok:Bool)(o:Option A)(d:A):A×Int:=bif !ok then(d,5)else match o with|some x=>(x,0)|none=>(d,10)
theorem AV(l:List aa)(hs:eU (·.a) l)(hl:l.length<=1073741824)(k:dX):D6 l k=some (EI (ic l k) lp):=by
 unfold D6;obtain⟨z,e,hz⟩:=A9 l hs hl k;rw[e,zg];exact Fz (none':=lp) hz
theorem u0{M:aj}(h:Good M):vQ M=some 0:=by rw[DF M h.fit,(BE M).2 h]
theorem jT{M:aj}(h:Good M)(k:dX)(hk:Sm k):BL M k=some (Bf (fE k) (ic M.i k) lp):=by
 have:=h.c2;unfold BL GO Bf;rw[u0 h,zg,yO _ hk,zg,AV _ h.g2 (by omega)];cases fE k
 .rfl
 .cases ic M.i k <;> rfl
def ei(x:ak):ai:=bif decide (x.e=5)then⟨3,lp,x.j,qe⟩else bif decide (x.e=6)then⟨5,lp,rz,x.h⟩else⟨1,x.g,rz,qe⟩
def vq(x:ak):ai:=⟨bif decide (x.e=5)then 3 else bif decide (x.e=6)then 5 else 1,x.g,x.j,x.h⟩
def eW(k:Int):Int:=bif decide (k=5)then 1 else bif decide (k=6)then 2 else 0
structure rq(x:ak):Prop where
 fp:Sm x.g.a
 sp:Sm x.j.k
 vp:Sm x.h.a
theorem JZ(x:ak):xT x=some (ei x):=by
 unfold xT ei
 cases decide (x.e=5) <;> cases decide (x.e=6) <;> rfl
theorem mH(a:aa):yu a a=true:=by simp[yu]
theorem ow(a:ab):iI a a=true:=by simp[iI]
theorem ov(a:ah):iH a a=true:=by simp[iH]
theorem tF(x:ak):iA (ei x)=ei x:=by
 unfold iA ei
 cases decide (x.e=5) <;> cases decide (x.e=6) <;> rfl
theorem tE(x:ak):Bo (ei x)=true:=by
 unfold Bo ei
 cases decide (x.e=5) <;> cases decide (x.e=6) <;> rfl
theorem kP(x:ak):kQ (ei x)=ny (ei x):=by
 unfold kQ;rw[tE,tF,show rJ (ei x) (ei x)=true by unfold rJ;rw[mH,ow,ov];rfl]
 cases decide (ny (ei x)=0) <;> rfl
theorem sJ{x:ak}(h:rq x):rL (ei x):=by
 unfold ei;have z:Sm ([]:dX):=Nat.zero_le _
 cases decide (x.e=5) <;> cases decide (x.e=6) <;> exact⟨by first|exact h.fp|exact z,by first|exact h.sp|exact z,by first|exact h.vp|exact z⟩
def u7(x:ak):Int :=
 bif decide (x.e<1)||decide (6<x.e)then 1 else
 bif !decide (ny (ei x)=0)then ny (ei x)else
 bif !rJ (vq x) (ei x)||x.h.A then 2 else 0
theorem jS(x:ak)(h:rq x):xP x=some (u7 x):=by
 unfold xP Gz u7;rw[JZ];simp only[zg];rw[J0 _ (sJ h)];simp only[zg];rw[kP]
 have e:(decide True&&(decide (x.g.a=(ei x).g.a)&&(decide (x.g.u=(ei x).g.u)&&(decide (x.g.w=(ei x).g.w)&&(decide (x.j.k=(ei x).j.k)&&(decide (x.j.Value=(ei x).j.Value)&&(decide (x.h.o=(ei x).h.o)&&(decide (x.h.a=(ei x).h.a)&&(decide (x.h.B=(ei x).h.B)&&decide (x.h.A=(ei x).h.A))))))))))=rJ (vq x) (ei x):=by
  simp only[rJ,yu,iI,iH,vq,decide_true,Bool.true_and,Bool.and_assoc];rfl
 rw[e]
 cases (decide (x.e<1)||decide (6<x.e)) <;> cases decide (ny (ei x)=0) <;> cases (!rJ (vq x) (ei x)||x.h.A) <;> rfl
def wd(c:UInt8):Bool:=(decide (48<=(c.toNat:Int))&&decide ((c.toNat:Int)<=57))||(decide (97<=(c.toNat:Int))&&decide ((c.toNat:Int)<=102))
def lD(s:dX):Bool:=s.all wd&&decide ((s.length:Int)=16)
theorem oH(s:dX):Dl s=some (lD s):=by
 unfold Dl;simp only[ft];rw[BD wd (z:=false) (fun i x nx k=>by simp only[wd];rw[pV,Bool.not_not])];simp only[u6];unfold lD
 cases s.all wd <;> rfl
def yb(k:Int):Bool:=decide (1<=k)&&decide (k<=6)
def named(k:Int)(p:dX):Bool:=bif decide (k=6)then g8 p else fE p
def qp(b:dX):dX:=iZ (([114]:dX)++b)
def hQ(b:dX):dX:=iZ (([45]:dX)++b)
def Fx(h:ae):Bool:=((!lD h.x)||((!decide (h.z=[]))&&(!decide (h.e=3))))||((decide (h.e=3)&&!decide (h.x=qp h.z))&&!decide (h.x=hQ h.z))
def mN(h:ae):Int :=
 bif !g8 h.t then 5 else bif !yb h.e then 1 else bif !named h.e h.a then 5 else bif Fx h then 2 else 0
structure FH(h:ae):Prop where
 p:Sm h.a
 b:Sm h.z
theorem yB(c:UInt8){b:dX}(h:Sm b):(([c]:dX)++b).length<=274877906944:=by
 unfold Sm at h;simp only[length_append,length_cons,length_nil];omega
theorem rx(h:ae)(hs:FH h):Dx h=some (mN h):=by
 unfold Dx;rw[xW,xW,yO _ hs.p,oH,yM,yM];unfold Gt;simp only[zg,lg];rw[zo (fun _=>yB 114 hs.b),zo (fun _=>yB 45 hs.b)];unfold mN named yb
 show(bif !g8 h.t then _ else bif !(decide (1<=h.e)&&decide (h.e<=6))then _ else _)=_
 cases g8 h.t
 .rfl
 cases (decide (1<=h.e)&&decide (h.e<=6))
 .rfl
 simp only[Bool.not_true,cond_false]
 have e1:((decide (h.e=6)&&!(bif decide (h.e=6)then g8 h.a else false))||((!decide (h.e=6))&&!(bif ((!((decide (h.e=6))&&(!(bif decide (h.e=6)then g8 h.a else false))))&&(!decide (h.e=6)))then fE h.a else false)))=!(bif decide (h.e=6)then g8 h.a else fE h.a):=by
  cases decide (h.e=6) <;> cases g8 h.a <;> cases fE h.a <;> rfl
 rw[e1];cases (bif decide (h.e=6)then g8 h.a else fE h.a)
 .rfl
 simp only[Bool.not_true,cond_false];unfold Fx
 change _=some (bif (((!lD h.x)||((!decide (h.z=[]))&&(!decide (h.e=3))))||((decide (h.e=3)&&!decide (h.x=qp h.z))&&!decide (h.x=hQ h.z)))then(2:Int)else 0)
 have e2:((decide (h.e=3)&&(!decide (h.x=(bif decide (h.e=3)then iZ (([114]:dX)++h.z)else []))))&&(!decide (h.x=(bif (decide (h.e=3)&&(!decide (h.x=(bif decide (h.e=3)then iZ (([114]:dX)++h.z)else []))))then iZ (([45]:dX)++h.z)else []))))=((decide (h.e=3)&&!decide (h.x=qp h.z))&&!decide (h.x=hQ h.z)):=by
  unfold qp hQ;cases decide (h.e=3)
  .rfl
  .simp only[cond_true,Bool.true_and]
   cases hq:decide (h.x=iZ (([114]:dX)++h.z)) <;> rfl
 rw[e2]
 cases ((!lD h.x)||((!decide (h.z=[]))&&(!decide (h.e=3)))) <;> cases ((decide (h.e=3)&&!decide (h.x=qp h.z))&&!decide (h.x=hQ h.z)) <;> rfl
def wA(a b:ae):Int:=bif !decide (eI a.t b.t=0)then eI a.t b.t else bif !decide (eW a.e-eW b.e=0)then eW a.e-eW b.e else eI a.a b.a
theorem oK(a b:dX):vo a b=some (eI a b):=rfl
theorem nN(k:Int):0<=eW k/\eW k<=2:=by
 unfold eW
 cases decide (k=5) <;> cases decide (k=6) <;> decide
theorem y9(k:Int):xL k=some (eW k+1):=by
 unfold xL eW
 cases decide (k=5) <;> cases decide (k=6) <;> rfl
theorem iv(h:ae):zG h=some ⟨eW h.e+1,h.a⟩:=by
 unfold zG
 rw[y9];rfl
theorem FJ(a b:ae):vm a b=some (wA a b):=by
 unfold vm wA;simp only[oK,zg,iv];have h1:=nN a.e;have h2:=nN b.e;cases decide (eI a.t b.t=0)
 .rfl
 simp only[Bool.not_true,cond_false];rw[show IntKind.i64.wrap (eW a.e+1-(eW b.e+1))=eW a.e-eW b.e by rw[qf (by omega) (by omega)];omega,show decide (eW a.e+1=eW b.e+1)=decide (eW a.e-eW b.e=0)by rw[decide_eq_decide];omega]
 cases decide (eW a.e-eW b.e=0) <;> rfl
def ou{α:Type}(e:Nat->α->Int):Nat->List α->Int
 |_,[]=>0
 |i,x::l=>bif !decide (e i x=0)then e i x else ou e (i+1) l
section
variable {α:Type}
theorem jz{f:Nat->α->Unit->(Unit->Option Int)->(Unit->Option Int)->Option Int}{K:Unit->Option Int}(e:Nat->α->Int)(L:List α)
  (hf:∀i x nx k,i<L.length->x∈L->f i x () nx k=bif !decide (e i x=0)then some (e i x)else nx ()) :
  ∀(l:List α) (i:Nat),L.drop i=l->forL l i f () K=bif !decide (ou e i l=0)then some (ou e i l)else K ()
 |[],i,_=>rfl
 |x::l,i,hd=>by
  have hi:i<L.length:=by
   rcases Nat.lt_or_ge i L.length with h|h
   .exact h
   .rw[drop_eq_nil_of_le h]at hd;cases hd
  have hx:x∈L:=by
   have:x∈L.drop i:=by rw[hd];exact mem_cons_self ..
   exact mem_of_mem_drop this
  have hd':L.drop (i+1)=l:=by
   have:=congrArg List.tail hd
   simpa using this
  unfold forL ou;rw[hf _ _ _ _ hi hx,jz e L hf l (i+1) hd']
  by_cases h1:e i x=0
  .simp only[h1,decide_true,Bool.not_true,cond_false]
  .simp only[decide_eq_false h1,Bool.not_false,cond_true]
end
def hz:ae:=ae.mk [] 0 [] [] []
def uf(L:List ae)(i:Nat)(h:ae):Int:=bif !decide (mN h=0)then mN h else bif decide (0<(i:Int))&&decide (0<=wA (L.getD (i-1) hz) h)then 7 else 0
def Fy(t:Int)(p:dX)(o:ae):Bool:=decide (eW o.e=t)&&decide (o.a=p)
def sN(a b:ae):Bool:=(decide (a.e=2)&&decide (b.e=2))&&decide (a.x=b.x)
def cf(o:Option ae)(h:ae):Bool:=o.isSome&&!sN (o.getD hz) h
def pU:List ae->List ae->Int
 |_,[]=>0
 |r,h::l=>bif cf (r.find? (Fy (eW h.e) h.a)) h then 11 else pU (h::r) l
def pO(k:am):Int:=bif decide (5000<(k.r.length:Int))then 4 else bif !decide (ou (uf k.r) 0 k.r=0)then ou (uf k.r) 0 k.r else pU [] k.r
theorem jA{A:Type}[DecidableEq A](key:Int->dX->A)(hkey:∀t p t' p',key t p=key t' p'↔t=t'/\p=p')
  {f:Nat->ae->List (A×ae)->(List (A×ae)->Option Int)->(List (A×ae)->Option Int)->Option Int}
  (hf:∀i h m nx k,m.length<=5000->f i h m nx k=bif cf (zu m (key (eW h.e) h.a)) h then some 11 else nx (ec m (key (eW h.e) h.a) h)) :
  ∀(l:List ae) (i:Nat) (m:List (A×ae)) (r:List ae),(∀t p,zu m (key t p)=r.find? (Fy t p))->m.length+l.length<=5000->forL l i f m (fun _=>some 0)=some (pU r l)
 |[],i,m,r,_,_=>rfl
 |h::l,i,m,r,hr,hn=>by
  simp only[length_cons]at hn;unfold forL pU;rw[hf _ _ _ _ _ (by omega),hr];cases cf (r.find? (Fy (eW h.e) h.a)) h
  .rw[cond_false,cond_false]
   refine jA key hkey hf l (i+1) _ (h::r) (fun t p=>?_) ?_
   .rw[lf]
    by_cases e:key (eW h.e) h.a=key t p
    .obtain⟨e1,e2⟩:=(hkey _ _ _ _).1 e
     rw[if_pos e,find?_cons_of_pos (by simp[Fy,e1,e2])]
    .rw[if_neg e,find?_cons_of_neg (by
      intro h1;simp only[Fy,Bool.and_eq_true,decide_eq_true_eq]at h1
      exact e ((hkey _ _ _ _).2 h1)),hr]
   .rw[xE]
    split <;> omega
  .rfl
end Go.Md
