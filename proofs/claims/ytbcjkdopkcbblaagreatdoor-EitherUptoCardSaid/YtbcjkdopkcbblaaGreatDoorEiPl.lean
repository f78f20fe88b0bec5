/- Plain lemmas on the models: the law's model answers true. -/
import Derived.Test.YtbcjkdopkcbblaaGreatDoorEiMd
set_option linter.unusedSimpArgs false
set_option linter.unusedVariables false
set_option linter.unusedSectionVars false
open List
namespace Go.Md
open Go.Vc
section
variable {Z A S α:Type}
theorem ze(x:A)(k:A->Option Z):call (some x) k=k x:=rfl
theorem iT(g:Bool)(x d:A)(k:A->Option Z):callG g (some x) d k=k (bif g then x else d):=by cases g <;> rfl
theorem QC(a:Option A)(d:A)(k:A->Option Z):callG true a d k=call a k:=rfl
theorem Ot(a:Option A)(d:A)(k:A->Option Z):callG false a d k=k d:=rfl
theorem zg{p:Prop}[Decidable p](h:p)(m:Option Z):dA p m=m:=if_pos h
theorem dH(F:S->Option Z)(m:(S->Option Z)->Option Z):jp F m=m F:=rfl
theorem U6(F:S->Option Z)(c:Bool)(x y:S):jp F (fun k=>bif c then k x else k y)=F (bif c then x else y):=by cases c <;> rfl
theorem Al{s:dy}{i:Nat}(h:i<s.length)(k:Int->Option Z):ig s i k=k (s[i].toNat:Int):=by
 unfold ig;simp[h]
theorem ft{l:List α}{i:Nat}(h:i<l.length)(k:α->Option Z):eB l i k=k l[i]:=by
 unfold eB;simp[h]
theorem sY{f:Nat->α->Unit->(Unit->Option Z)->(Unit->Option Z)->Option Z}{z:Z}(q:α->Bool)(hf:∀i x nx k,f i x () nx k=bif q x then nx ()else some z)(k:Unit->Option Z) :
  ∀(l:List α) (i:Nat),forL l i f () k=bif l.all q then k ()else some z
 |[],i=>rfl
 |x::l,i=>by
  unfold forL;rw[hf,sY q hf k l (i+1),all_cons]
  cases q x <;> rfl
theorem KY{f:Nat->α->S->(S->Option Z)->(S->Option Z)->Option Z}{k:S->Option Z}(inv:Nat->List α->S->Prop)(R:Nat->List α->S->Option Z)
  (h0:∀i s,inv i [] s->k s=R i [] s) (h1:∀i x l s nx,inv i (x::l) s->(∀s',inv (i+1) l s'->nx s'=R (i+1) l s')->f i x s nx k=R i (x::l) s) :
  ∀(l:List α) (i:Nat) (s:S),inv i l s->forL l i f s k=R i l s
 |[],i,s,h=>h0 i s h
 |x::l,i,s,h=>h1 i x l s _ h fun s' hs=>KY inv R h0 h1 l (i+1) s' hs
theorem Cg{f:S->(S->Option Z)->(S->Option Z)->Option Z}{k:S->Option Z}(inv:S->Prop)(mu:S->Nat)(R:S->Option Z)
  (h:∀s nx,inv s->(∀s',inv s'->mu s'<mu s->nx s'=R s')->f s nx k=R s):∀(N:Nat) (s:S),inv s->mu s<N->loopN N f s k=R s
 |0,s,_,hm=>by omega
 |N+1,s,hi,hm=>by
  unfold loopN
  exact h s _ hi fun s' hs' hlt=>Cg inv mu R h N s' hs' (by omega)
theorem iA(b:Bool)(x y:Z):(bif b then some x else some y)=some (bif b then x else y):=by cases b <;> rfl
theorem vc(c:Bool)(x y:Z):(bif c then x else y)=bif !c then y else x:=by cases c <;> rfl
theorem x8{c:Bool}(h:c=true)(x y:Z):(bif c then x else y)=x:=by rw[h];rfl
theorem lc{c:Bool}(h:c=false)(x y:Z):(bif c then x else y)=y:=by rw[h];rfl
end
theorem gS{n:Int}(h1:-9223372036854775808<=n)(h2:n<=9223372036854775807):IntKind.i64.wrap n=n:=qg h1 h2
theorem rz(n:Nat)(h:n<=9223372036854775807):IntKind.i64.wrap (n:Int)=n:=qg (by omega) (by omega)
theorem fN(i:Nat)(h:i<9223372036854775807):IntKind.i64.wrap ((i:Int)+1)=((i+1:Nat):Int):=by rw[gS (by omega) (by omega)];rfl
theorem lE(i:Nat)(h0:0<i)(h:i<9223372036854775807):IntKind.i64.wrap ((i:Int)-1)=((i-1:Nat):Int):=by rw[gS (by omega) (by omega)];omega
theorem rt:1099511627776<=eV:=Nat.le_refl _
def dN(c:UInt8):dy->dy×dy×Bool
 |[]=>([],[],false)
 |b::s=>if b=c then([],s,true)else(b::(dN c s).1,(dN c s).2.1,(dN c s).2.2)
def zR(c:UInt8):dy->List dy
 |[]=>[[]]
 |b::s=>if b=c then []::zR c s else match zR c s with
  |[]=>[[b]]
  |h::t=>(b::h)::t
theorem yT{c:UInt8}:∀{s:dy},c∉s->dN c s=(s,[],false)
 |[],_=>rfl
 |b::s,h=>by
  have hb:b≠c:=fun e=>h (by simp[e])
  have ht:=yT (s:=s) (c:=c) (fun h'=>h (mem_cons_of_mem _ h'));simp only[dN,if_neg hb,ht]
theorem rv{c:UInt8}:∀{s:dy},c∈s->(dN c s).2.2=true/\s=(dN c s).1++c::(dN c s).2.1/\c∉(dN c s).1
 |[],h=>by cases h
 |b::s,h=>by
  by_cases hb:b=c
  .subst hb;simp[dN]
  .have hm:c∈s:=by
    rcases mem_cons.1 h with rfl|h
    .exact absurd rfl hb
    .exact h
   obtain⟨h1,h2,h3⟩:=rv hm;simp only[dN,if_neg hb];refine⟨h1,by rw[cons_append,<-h2],?_⟩;intro h'
   rcases mem_cons.1 h' with rfl|h'
   .exact hb rfl
   .exact h3 h'
theorem LA{c:UInt8}:∀{a b:dy},c∉a->dN c (a++c::b)=(a,b,true)
 |[],b,_=>by simp[dN]
 |x::a,b,h=>by
  have hx:x≠c:=fun e=>h (by simp[e])
  have:=LA (a:=a) (b:=b) (c:=c) (fun h'=>h (mem_cons_of_mem _ h'));simp only[cons_append,dN,if_neg hx,this]
theorem LQ(c:UInt8)(s:dy):zR c s≠[]:=by
 cases s with
 |nil=>simp[zR]
 |cons b s =>
  simp only[zR];split
  .simp
  .split <;> simp
theorem GK{c:UInt8}:∀{s:dy},c∉s->zR c s=[s]
 |[],_=>rfl
 |b::s,h=>by
  have hb:b≠c:=fun e=>h (by simp[e])
  have ht:=GK (s:=s) (c:=c) (fun h'=>h (mem_cons_of_mem _ h'));simp only[zR,if_neg hb,ht]
theorem DN{c:UInt8}:∀{a b:dy},c∉a->zR c (a++c::b)=a::zR c b
 |[],b,_=>by simp[zR]
 |x::a,b,h=>by
  have hx:x≠c:=fun e=>h (by simp[e])
  have:=DN (a:=a) (b:=b) (c:=c) (fun h'=>h (mem_cons_of_mem _ h'));simp only[cons_append,zR,if_neg hx,this]
theorem DO(c:UInt8)(s:dy):zR c s=if (dN c s).2.2=true then(dN c s).1::zR c (dN c s).2.1 else [s]:=by
 by_cases h:c∈s
 .obtain⟨h1,h2,h3⟩:=rv h
  rw[if_pos h1]
  conv=>lhs;rw[h2]
  exact DN h3
 .rw[yT h]
  simpa using GK h
theorem Av(c:UInt8)(s:dy):(dN c s).1.length<=s.length/\(dN c s).2.1.length<=s.length/\((dN c s).2.2=true->(dN c s).1.length+(dN c s).2.1.length+1=s.length):=by
 by_cases h:c∈s
 .obtain⟨h1,h2,h3⟩:=rv h
  have:=congrArg List.length h2;simp only[length_append,length_cons]at this;exact⟨by omega,by omega,fun _=>by omega⟩
 .rw[yT h];simp
theorem IP{c:UInt8}:∀{s:dy} {p:dy},p∈zR c s->p.length<=s.length
 |[],p,h=>by simp[zR]at h;simp[h]
 |b::s,p,h=>by
  simp only[zR]at h;split at h
  .rcases mem_cons.1 h with rfl|h
   .simp
   .have:=IP h;simp;omega
  .split at h
   .rename_i e;exact absurd e (LQ c s)
   .rename_i a t e
    rcases mem_cons.1 h with rfl|h
    .have:=IP (s:=s) (p:=a) (c:=c) (by rw[e];simp)
     simp;omega
    .have:=IP (s:=s) (p:=p) (c:=c) (by rw[e];simp[h])
     simp;omega
def tU(s:dy)(c:UInt8):Int:=Lib.indexByte s c
theorem md(c:UInt8):∀s:dy,tU s c=if c∈s then((dN c s).1.length:Int)else -1
 |[]=>rfl
 |b::s=>by
  have ih:=md c s;unfold tU at *;unfold Lib.indexByte
  by_cases hb:b=c
  .subst hb;simp[dN]
  .rw[if_neg (by simpa using hb),ih]
   simp only[dN,if_neg hb,mem_cons,Ne.symm hb,false_or]
   by_cases h:c∈s
   .rw[if_pos h,if_pos h]
    simp
   .rw[if_neg h,if_neg h];rfl
theorem xb{c:UInt8}{s:dy}(h:c∉s):tU s c=-1:=by rw[md,if_neg h]
theorem Nz{c:UInt8}{s:dy}(h:c∈s):tU s c=((dN c s).1.length:Int):=by rw[md,if_pos h]
theorem Oc{c:UInt8}{s:dy}(h:c∈s):s.take (dN c s).1.length=(dN c s).1/\s.drop ((dN c s).1.length+1)=(dN c s).2.1:=by
 obtain⟨h1,h2,h3⟩:=rv h;generalize dN c s=q at h2|-;subst h2;constructor
 .exact take_left' rfl
 .rw[<-drop_drop,drop_left' rfl];rfl
theorem JU(c:UInt8):((([c]:dy).length:Nat):Int)=1:=rfl
theorem D7(i:Nat)(c:UInt8)(h:i<9223372036854775807):IntKind.i64.wrap ((i:Int)+((([c]:dy).length:Nat):Int))=((i+1:Nat):Int):=fN i h
theorem Ra(s:dy)(c:UInt8):yH s (c.toNat:Int)=tU s c:=by
 unfold yH tU
 congr 1
 simp
theorem nu(s:dy)(c:UInt8):G4 s [c]=some (tU s c):=by
 unfold G4 Ha
 by_cases h:s=[c]
 .subst h
  simp[tU,Lib.indexByte]
 .have:(decide (([c]:dy)=s))=false:=by simpa using fun e=>h e.symm
  simp only[this,JU,show decide ((1:Int)=0)=false from rfl,show decide ((1:Int)=1)=true from rfl,decide_true,Bool.or_false,cond_false,cond_true]
  show ig [c] ((0:Nat):Int) _=_
  rw[Al (by simp)];simp only[ze,getElem_cons_zero,Ra]
theorem oq(s:dy)(c:UInt8):GD s [c]=some (tU s c):=by
 unfold GD
 rw[nu];rfl
theorem oU(s:dy)(c:UInt8):IA s [c]=some ((s.count c:Nat):Int):=by
 unfold IA;simp only[JU,show decide ((1:Int)=0)=false from rfl,show decide ((1:Int)=1)=true from rfl,decide_true,cond_false,cond_true]
 show ig [c] ((0:Nat):Int) _=_
 rw[Al (by simp)];unfold Ah;simp
theorem rc(s:dy)(c:UInt8)(hs:s.length<=1099511627776):Cs s [c]=some (dN c s):=by
 unfold Cs Mz;rw[nu];simp only[ze]
 by_cases h:c∈s
 .obtain⟨h1,h2,h3⟩:=rv h
  have hl:=(Av c s).2.2 h1;obtain⟨t1,t2⟩:=Oc h;rw[Nz h,decide_eq_true (by omega),cond_true];rw[zg (by omega)];simp only[D7 _ c (show(dN c s).1.length<9223372036854775807 by omega)];rw[zg (by omega)];simp only[Int.toNat_natCast,t1,t2,ze];rw[show true=(dN c s).2.2 from h1.symm]
 .rw[xb h]
  simp only[show decide ((0:Int)<=-1)=false from rfl,cond_false,ze];rw[yT h]
theorem RG{c:UInt8}{s:dy}(h:c∈s):(dN c s).2.1.count c+1=s.count c:=by
 obtain⟨h1,h2,h3⟩:=rv h
 conv=>rhs;rw[h2]
 rw[count_append,count_eq_zero_of_not_mem h3,count_cons_self];omega
theorem HN{α:Type}(l:List α)(i:Nat)(x:α)(h:i<l.length):(l.set i x).take (i+1)=l.take i++[x]:=by
 rw[take_succ_eq_append_getElem (by simpa using h)];simp[take_set_of_le]
theorem M6(s:dy)(c:UInt8)(hs:s.length<=17179869184):DY s [c]=some (zR c s):=by
 have hcl:=count_le_length (a:=c) (l:=s)
 have key:CB s [c] 0 (-1)=some (zR c s):=by
  unfold CB;obtain⟨N,hN⟩:∃N,eV=N:=⟨_,rfl⟩;have hN2:1099511627776<=N:=hN ▸ rt;rw[hN];clear hN
  have hmin:min ((s.count c+1:Nat):Int) ((s.length+1:Nat):Int)=((s.count c+1:Nat):Int):=by omega
  simp only[dH,oU,ze,show decide ((-1:Int)=0)=false from rfl,show decide ((-1:Int)<0)=true from rfl,show decide (([c]:dy)=[])=false from rfl,cond_true,cond_false];simp only[fN (s.count c) (by omega),fN s.length (by omega),hmin];rw[zg (by omega)]
  have hw:IntKind.i64.wrap (((s.count c+1:Nat):Int)-1)=((s.count c:Nat):Int):=by rw[gS (by omega) (by omega)];omega
  simp only[hw,Int.toNat_natCast]
  refine(Cg (S:=dy×Int×List dy) (fun st=>∃i:Nat,st.2.1=i/\st.2.2.length=s.count c+1/\st.1.length<=s.length/\i+st.1.count c=s.count c) (fun st=>s.count c-st.2.1.toNat)
   (fun st=>some (st.2.2.take st.2.1.toNat++zR c st.1)) ?_ N _ ⟨0,rfl,by simp,Nat.le_refl _,by simp⟩ (by simp only;omega)).trans ?_
  .rintro⟨t,i',o⟩ nx ⟨i,rfl,ho,ht,hc⟩ hnx
   simp only at ho ht hc hnx|-;simp only[oq,ze]
   by_cases hi:i<s.count c
   .have hmem:c∈t:=by rw[<-count_pos_iff];omega
    obtain⟨h1,h2,h3⟩:=rv hmem;have hl:=(Av c t).2.2 h1;obtain⟨t1,t2⟩:=Oc hmem;rw[decide_eq_true (by omega),cond_true,Nz hmem,decide_eq_false (by omega),cond_false]
    have hw3:IntKind.i64.wrap (((dN c t).1.length:Int)+0)=((dN c t).1.length:Int):=by rw[gS (by omega) (by omega)];omega
    have hw4:IntKind.i64.wrap (((dN c t).1.length:Int)+(([c]:dy).length:Int))=(((dN c t).1.length+1:Nat):Int):=fN _ (by omega);simp only[hw3,hw4,fN i (by omega),Int.toNat_natCast];rw[zg (by omega),zg (by omega),zg (by omega)];have hdc:=RG hmem;simp only[t1,t2];rw[hnx _ ⟨i+1,rfl,by simpa using ho,by simp only;omega,by simp only;omega⟩ (by simp only[Int.toNat_natCast];omega)];simp only[Int.toNat_natCast];rw[HN o i _ (by omega)]
    congr 1
    rw[show zR c t=(dN c t).1::zR c (dN c t).2.1 by rw[DO,if_pos h1]];simp
   .obtain rfl:i=s.count c:=by omega
    rw[decide_eq_false (by omega),cond_false]
    have hmem:c∉t:=by rw[<-count_pos_iff];omega
    rw[zg (by omega),fN _ (by omega)];simp only[Int.toNat_natCast,length_set];rw[zg (by omega),HN o _ _ (by omega),GK hmem]
  .simp
 unfold DY
 rw[key];rfl
def HX:dy:=[48,49,50,51,52,53,54,55,56,57,97,98,99,100,101,102]
def gK(n:Nat):UInt8:=HX.getD n 0
def mW(c:UInt8):Bool:=decide ((c.toNat:Int)=92)||decide ((c.toNat:Int)=34)
def sV(c:UInt8):Bool:=decide ((c.toNat:Int)<32)||decide (126<(c.toNat:Int))
def pZ(c:UInt8):dy:=bif mW c then [92,c]else bif decide ((c.toNat:Int)=10)then [92,110]else bif sV c then [92,120,gK (c.toNat / 16),gK (c.toNat % 16)]else [c]
def body(t:dy):dy:=t.flatMap pZ
def iO(t:dy):dy:=34::(body t++[34])
theorem rC{p:UInt8->Prop}(h:∀n:Fin 256,p (UInt8.ofNat n.val))(c:UInt8):p c:=by
 have:=h ⟨c.toNat,c.toNat_lt⟩
 simpa using this
theorem U8(c:UInt8):Int.fdiv (c.toNat:Int) (2^(yY .u8 4))=((c.toNat / 16:Nat):Int):=by
 revert c
 exact rC (by decide +kernel)
theorem U5(c:UInt8):pN .and .u8 (c.toNat:Int) 15=((c.toNat % 16:Nat):Int):=by
 revert c
 exact rC (by decide +kernel)
theorem xg(c:UInt8):c.toNat / 16<16:=by have:=c.toNat_lt;omega
theorem wV(c:UInt8):c.toNat % 16<16:=by omega
theorem Ff(n:Nat)(h:n<16):(HX[n]'(by simpa [HX]using h))=gK n:=by
 simp[gK,HX,getD_eq_getElem?_getD,h]
theorem xe{Z:Type}(n:Nat)(h:n<16)(k:Int->Option Z):ig HX (n:Int) k=k ((gK n).toNat:Int):=by
 rw[Al (by simpa [HX]using h),Ff n h]
theorem Jm(c:UInt8):UInt8.ofNat ((c.toNat:Int)).toNat=c:=by simp
theorem KQ(c:UInt8):(pZ c).length<=4/\1<=(pZ c).length:=by
 unfold pZ
 cases mW c <;> cases decide ((c.toNat:Int)=10) <;> cases sV c <;> simp
theorem xV(t:dy):(body t).length<=4*t.length:=by
 induction t with
 |nil=>simp[body]
 |cons c t ih =>
  have:=(KQ c).1;simp only[body,flatMap_cons,length_append,length_cons]at *;omega
theorem Ly(c:UInt8)(t:dy):body (c::t)=pZ c++body t:=by simp[body]
theorem LO(t:dy):(iO t).length<=4*t.length+2:=by
 have:=xV t
 simp only[iO,length_cons,length_append,length_nil];omega
theorem Rj(s:dy)(hs:s.length<=17179869184):Gl s=some (iO s):=by
 unfold Gl
 have hw:IntKind.i64.wrap ((s.length:Int)+2)=((s.length+2:Nat):Int):=by rw[gS (by omega) (by omega)];rfl
 simp only[hw,dH];rw[zg (by omega),zg (by simp)];refine(KY (fun i l (o:List Int)=>o.length+4*l.length<=4*s.length+1) (fun i l o=>some (Go.Vc.strOf o++(body l++[34]))) (fun i o h=>?_) (fun i c l o nx h hnx=>?_) s 0 _ ?_).trans ?_
 .simp only[length_nil]at h
  rw[zg (by simp;omega),CA];rfl
 .simp only[length_cons]at h
  rw[Ly];unfold pZ mW
  cases h1:decide ((c.toNat:Int)=92)||decide ((c.toNat:Int)=34)with
  |true =>
   simp only[cond_true];rw[zg (by simp;omega),hnx _ (by simp;omega),CA];simp only[Cq,Ci,Jm];simp
  |false =>
   simp only[cond_false]
   cases h2:decide ((c.toNat:Int)=10)with
   |true =>
    simp only[cond_true];rw[zg (by simp;omega),hnx _ (by simp;omega),CA];simp[Cq,Ci]
   |false =>
    simp only[cond_false];unfold sV
    cases h3:decide ((c.toNat:Int)<32)||decide (126<(c.toNat:Int))with
    |true =>
     simp only[cond_true,U8,U5];rw[show([48,49,50,51,52,53,54,55,56,57,97,98,99,100,101,102]:dy)=HX from rfl,xe _ (xg c),xe _ (wV c),zg (by simp;omega),hnx _ (by simp;omega),CA];simp only[Cq,Ci,Jm];simp
    |false =>
     simp only[cond_false];rw[zg (by simp;omega),hnx _ (by simp;omega),CA];simp only[Cq,Ci,Jm];simp
 .simp;omega
 .simp only[List.replicate,nil_append,Cq,Ci]
  rfl
def g7(c:UInt8):Int:=tU HX c
theorem Gm(c:UInt8):g7 c=-1∨∃a:Fin 16,g7 c=(a.val:Int)/\c=gK a.val:=by
 revert c
 exact rC (by decide +kernel)
theorem LC(n:Nat)(h:n<16):g7 (gK n)=n:=by
 have:∀m:Fin 16,g7 (gK m.val)=(m.val:Int):=by decide +kernel
 exact this ⟨n,h⟩
def iw:dy->Int×Int
 |[]=>(0,0)
 |c::r=>bif mW c then((c.toNat:Int),1)else bif decide ((c.toNat:Int)=110)then(10,1)else bif !decide ((c.toNat:Int)=120)then(0,0)else match r with
  |h::l::_=>bif decide (g7 h<0)||decide (g7 l<0)then(0,0)else bif (decide (32<=16*g7 h+g7 l)&&decide (16*g7 h+g7 l<=126))||decide (16*g7 h+g7 l=10)then(0,0)else(16*g7 h+g7 l,3)
  |_=>(0,0)
theorem Bv(r:dy):0<=(iw r).2/\(iw r).2<=r.length/\(iw r).2<=3/\0<=(iw r).1/\(iw r).1<=255:=by
 cases r with
 |nil=>simp[iw]
 |cons c r =>
  have hc:=c.toNat_lt;simp only[iw];cases mW c
  .cases decide ((c.toNat:Int)=110)
   .cases decide ((c.toNat:Int)=120)
    .simp;omega
    .rcases r with _|⟨h,_|⟨l,r⟩⟩
     .simp
     .simp;try omega
     .simp only[cond_false,Bool.not_true]
      rcases Gm h with h1|⟨a,h1,_⟩
      .simp[h1];omega
      rcases Gm l with h2|⟨b,h2,_⟩
      .simp[h2];omega
      have:=a.isLt;have:=b.isLt;simp only[h1,h2]
      cases decide (((a.val:Nat):Int)<0)||decide (((b.val:Nat):Int)<0)
      .simp only[cond_false]
       generalize (decide (32<=16*((a.val:Nat):Int)+((b.val:Nat):Int))&&decide (16*((a.val:Nat):Int)+((b.val:Nat):Int)<=126)||decide (16*((a.val:Nat):Int)+((b.val:Nat):Int)=10))=q;cases q
       .simp only[cond_false,length_cons];omega
       .simp;omega
      .simp;omega
   .simp;omega
  .simp only[cond_true,length_cons];omega
theorem oI{x:UInt8}(h:mW x=true)(r:dy):iw (x::r)=((x.toNat:Int),1):=by simp only[iw,h,cond_true]
theorem xn{x:UInt8}(h:mW x=false)(h2:decide ((x.toNat:Int)=110)=false)(h3:decide ((x.toNat:Int)=120)=false)(r:dy):iw (x::r)=(0,0):=by simp only[iw,h,h2,h3,cond_false,Bool.not_false,cond_true]
theorem MZ(h l:UInt8)(r:dy):iw (120::h::l::r)=bif decide (g7 h<0)||decide (g7 l<0)then(0,0)else bif (decide (32<=16*g7 h+g7 l)&&decide (16*g7 h+g7 l<=126))||decide (16*g7 h+g7 l=10)then(0,0)else(16*g7 h+g7 l,3):=rfl
theorem ug(m n:Nat)(hm:m<16)(hn:n<16)(r:dy):iw (120::gK m::gK n::r)=bif (decide (32<=16*(m:Int)+(n:Int))&&decide (16*(m:Int)+(n:Int)<=126))||decide (16*(m:Int)+(n:Int)=10)then(0,0)else(16*(m:Int)+(n:Int),3):=by
 rw[MZ,LC m hm,LC n hn,decide_eq_false (by omega),decide_eq_false (by omega)];rfl
theorem ou(s:dy)(c:UInt8):GY s (c.toNat:Int)=some (tU s c):=by
 unfold GY Ha
 rw[Ra];rfl
theorem Jh(n:Int)(h:0<=n)(h2:n<=255):IntKind.u8.wrap n=n:=by
 rw[Ji h h2]
theorem SM(s:dy):Ih s=some (iw s):=by
 unfold Ih
 cases s with
 |nil=>rfl
 |cons c r =>
  simp only[show decide (c::r=([]:dy))=false from rfl,cond_false];rw[show ig (c::r) 0=ig (c::r) ((0:Nat):Int)from rfl,Al (by simp)];simp only[getElem_cons_zero];simp only[iw];rw[show(decide ((c.toNat:Int)=92)||decide ((c.toNat:Int)=34))=mW c from rfl];cases mW c
  .simp only[cond_false]
   cases decide ((c.toNat:Int)=110)
   .simp only[cond_false]
    cases decide ((c.toNat:Int)=120)
    .rfl
    .simp only[Bool.not_true,Bool.false_or,cond_false]
     rcases r with _|⟨h,_|⟨l,r⟩⟩
     .rfl
     .rfl
     .rw[decide_eq_false (by simp only[length_cons];omega),cond_false,show ig (c::h::l::r) 1=ig (c::h::l::r) ((1:Nat):Int)from rfl,Al (by simp)]
      simp only[getElem_cons_succ,getElem_cons_zero,show([48,49,50,51,52,53,54,55,56,57,97,98,99,100,101,102]:dy)=HX from rfl,ou,ze];rw[show ig (c::h::l::r) 2=ig (c::h::l::r) ((2:Nat):Int)from rfl,Al (by simp)];simp only[getElem_cons_succ,getElem_cons_zero,ou,ze];rw[show tU HX h=g7 h from rfl,show tU HX l=g7 l from rfl]
      rcases Gm h with h1|⟨a,h1,_⟩
      .rw[h1];rfl
      rcases Gm l with h2|⟨b,h2,_⟩
      .rw[h2];simp
      have ha:=a.isLt;have hb:=b.isLt;rw[h1,h2,decide_eq_false (by omega),decide_eq_false (by omega)];simp only[Bool.or_false,cond_false];rw[gS (n:=16*((a.val:Nat):Int)) (by omega) (by omega),gS (n:=16*((a.val:Nat):Int)+((b.val:Nat):Int)) (by omega) (by omega),Jh _ (by omega) (by omega)];generalize (decide (32<=16*((a.val:Nat):Int)+((b.val:Nat):Int))&&decide (16*((a.val:Nat):Int)+((b.val:Nat):Int)<=126)||decide (16*((a.val:Nat):Int)+((b.val:Nat):Int)=10))=q
      cases q <;> rfl
   .rfl
  .rfl
def vN:dy->Option (UInt8×dy)
 |[]=>none
 |c::r=>bif sV c||decide ((c.toNat:Int)=34)then none else bif decide ((c.toNat:Int)=92)then(bif decide ((iw r).2=0)then none else some (UInt8.ofNat (iw r).1.toNat,r.drop (iw r).2.toNat))else some (c,r)
theorem Bu(x:UInt8)(h1:mW x=false)(h2:decide ((x.toNat:Int)=10)=false)(h3:sV x=true)(r:dy):iw (120::gK (x.toNat / 16)::gK (x.toNat % 16)::r)=((x.toNat:Int),3):=by
 have a1:=xg x;have a2:=wV x;simp only[iw];rw[show mW 120=false from rfl,show decide ((((120:UInt8).toNat:Nat):Int)=110)=false from rfl,show decide ((((120:UInt8).toNat:Nat):Int)=120)=true from rfl];simp only[cond_false,Bool.not_true,LC _ a1,LC _ a2]
 have e:16*((x.toNat / 16:Nat):Int)+((x.toNat % 16:Nat):Int)=(x.toNat:Int):=by omega
 rw[e,decide_eq_false (by omega),decide_eq_false (by omega)];simp only[Bool.or_self,cond_false,h2,Bool.or_false]
 have:(decide (32<=(x.toNat:Int))&&decide ((x.toNat:Int)<=126))=false:=by
  unfold sV at h3;simp only[Bool.or_eq_true,decide_eq_true_eq]at h3;simp only[Bool.and_eq_false_iff,decide_eq_false_iff_not];omega
 rw[this];rfl
theorem AP(x:UInt8)(r:dy):vN (pZ x++r)=some (x,r):=by
 unfold pZ;cases h1:mW x
 .cases h2:decide ((x.toNat:Int)=10)
  .cases h3:sV x
   .simp only[cond_false,cons_append,nil_append]
    simp only[vN];unfold mW at h1;simp only[Bool.or_eq_false_iff]at h1
    rw[h3,h1.1,h1.2];rfl
   .simp only[cond_false,cond_true,cons_append,nil_append]
    simp only[vN];rw[Bu x h1 h2 h3];simp;rfl
  .simp only[cond_false,cond_true,cons_append,nil_append]
   have:x=10:=by
    have h:=of_decide_eq_true h2
    have:x.toNat=10:=by omega
    exact UInt8.toNat_inj.1 this
   subst this;rfl
 .simp only[cond_true,cons_append,nil_append]
  simp only[vN,oI h1];simp;rfl
theorem nf{r r2:dy}{x:UInt8}(h:vN r=some (x,r2)):r=pZ x++r2:=by
 cases r with
 |nil=>cases h
 |cons c r =>
  simp only[vN]at h
  cases hf:sV c||decide ((c.toNat:Int)=34)
  .rw[hf,cond_false]at h
   simp only[Bool.or_eq_false_iff]at hf;cases hb:decide ((c.toNat:Int)=92)
   .rw[hb,cond_false]at h
    cases h;unfold pZ mW;rw[hb,hf.2]
    have:decide ((x.toNat:Int)=10)=false:=by
     have:=hf.1;unfold sV at this;simp only[Bool.or_eq_false_iff,decide_eq_false_iff_not]at this;simp only[decide_eq_false_iff_not];omega
    rw[this,hf.1];rfl
   .rw[hb,cond_true]at h
    have hc:c=92:=by
     have h:=of_decide_eq_true hb
     have:c.toNat=92:=by omega
     exact UInt8.toNat_inj.1 this
    subst hc
    cases r with
    |nil=>simp[iw]at h
    |cons d r =>
     cases he:mW d
     .cases hn:decide ((d.toNat:Int)=110)
      .cases hx:decide ((d.toNat:Int)=120)
       .rw[xn he hn hx]at h;simp at h
       .have hd:d=120:=by
         have h:=of_decide_eq_true hx
         have:d.toNat=120:=by omega
         exact UInt8.toNat_inj.1 this
        subst hd
        rcases r with _|⟨a,_|⟨b,r⟩⟩
        .rw[show iw [120]=(0,0)from rfl]at h;simp at h
        .rw[show iw [120,a]=(0,0)from rfl]at h;simp at h
        .rcases Gm a with h1|⟨m,h1,rfl⟩
         .rw[MZ,h1]at h;simp at h
         rcases Gm b with h2|⟨n,h2,rfl⟩
         .rw[MZ,h2]at h;simp at h
         have hm:=m.isLt;have hn':=n.isLt;have hE:=ug m.val n.val hm hn' r
         cases hq:(decide (32<=16*((m.val:Nat):Int)+((n.val:Nat):Int))&&decide (16*((m.val:Nat):Int)+((n.val:Nat):Int)<=126))||decide (16*((m.val:Nat):Int)+((n.val:Nat):Int)=10)
         .rw[hq,cond_false]at hE
          rw[hE]at h;rw[show decide ((3:Int)=0)=false from rfl,cond_false]at h;have h':=Option.some.inj h;have hx':UInt8.ofNat (16*((m.val:Nat):Int)+((n.val:Nat):Int)).toNat=x:=congrArg Prod.fst h';have hr':List.drop (3:Int).toNat (120::gK m.val::gK n.val::r)=r2:=congrArg Prod.snd h';have hr2:r=r2:=hr'
          have hxn:x.toNat=16*m.val+n.val:=by
           rw[<-hx',UInt8.toNat_ofNat'];omega
          simp only[Bool.or_eq_false_iff,Bool.and_eq_false_iff,decide_eq_false_iff_not]at hq;unfold pZ
          have e1:mW x=false:=by
           unfold mW;simp only[Bool.or_eq_false_iff,decide_eq_false_iff_not];omega
          have e2:decide ((x.toNat:Int)=10)=false:=by simp only[decide_eq_false_iff_not];omega
          have e3:sV x=true:=by
           unfold sV;simp only[Bool.or_eq_true,decide_eq_true_eq];omega
          rw[e1,e2,e3,hxn,show(16*m.val+n.val) / 16=m.val by omega,show(16*m.val+n.val) % 16=n.val by omega,<-hr2];rfl
         .rw[hq,cond_true]at hE
          rw[hE]at h;simp at h
      .have hd:d=110:=by
        have h:=of_decide_eq_true hn
        have:d.toNat=110:=by omega
        exact UInt8.toNat_inj.1 this
       subst hd;have h':some ((10:UInt8),r)=some (x,r2):=h;cases h';rfl
     .rw[oI he]at h
      simp only[]at h;rw[show decide ((1:Int)=0)=false from rfl,cond_false,Jm]at h;cases h;unfold pZ
      rw[he];rfl
  .rw[hf,cond_true]at h;cases h
def jR:Nat->dy->Option dy
 |n,[]=>some []
 |0,_::_=>none
 |n+1,c::r=>(vN (c::r)).bind fun p=>(jR n p.2).map (p.1::·)
theorem Lm(n:Nat):jR n []=some []:=by cases n <;> rfl
theorem th(c:UInt8)(r:dy):jR 0 (c::r)=none:=rfl
theorem HR(n:Nat)(c:UInt8)(r:dy):jR (n+1) (c::r)=(vN (c::r)).bind fun p=>(jR n p.2).map (p.1::·):=rfl
theorem Fi(x:UInt8):pZ x≠[]:=by
 have:=(KQ x).2
 intro h;rw[h]at this;simp at this
theorem j7:∀(t:dy) (n:Nat),t.length<=n->jR n (body t)=some t
 |[],n,_=>Lm n
 |x::t,0,h=>by simp at h
 |x::t,n+1,h=>by
  rw[Ly];have hs:=AP x (body t)
  have hne:pZ x++body t≠[]:=fun h=>Fi x (append_eq_nil_iff.1 h).1
  obtain⟨c,r,hb⟩:=exists_cons_of_ne_nil hne;rw[hb]at hs|-
  rw[HR,hs,Option.bind_some,j7 t n (by simpa using h)];rfl
theorem P8:∀(n:Nat) (r t:dy),jR n r=some t->body t=r
 |n,[],t,h=>by
  rw[Lm]at h;obtain rfl:=Option.some.inj h;rfl
 |0,c::r,t,h=>by rw[th]at h;cases h
 |n+1,c::r,t,h=>by
  rw[HR]at h;obtain⟨p,hs,h⟩:=Option.bind_eq_some_iff.1 h;obtain⟨t2,hu,h⟩:=Option.map_eq_some_iff.1 h;rw[<-h,Ly,P8 n p.2 t2 hu];exact(nf (x:=p.1) (r2:=p.2) hs).symm
theorem rD{r r2:dy}{x:UInt8}(h:vN r=some (x,r2)):r2.length<r.length:=by
 have:=nf h;have hl:=(KQ x).2
 rw[this,length_append];omega
theorem ph{α β:Type}{o:Option α}{f g:α->Option β}(h:∀p,o=some p->f p=g p):o.bind f=o.bind g:=by
 cases o with
 |none=>rfl
 |some p=>exact h p rfl
theorem OD:∀(n:Nat) (r:dy),r.length<=n->jR n r=jR r.length r
 |n,[],_=>by rw[Lm,Lm]
 |0,c::r,h=>by simp at h
 |n+1,c::r,h=>by
  rw[length_cons,HR,HR]
  refine ph fun p hs=>?_
  have hl:=rD (x:=p.1) (r2:=p.2) hs;rw[length_cons]at hl h;rw[OD n p.2 (by omega),OD r.length p.2 (by omega)]
def uL(r:dy):Option dy:=jR r.length r
theorem qj{c:UInt8}{r:dy}:uL (c::r)=(vN (c::r)).bind fun p=>(uL p.2).map (p.1::·):=by
 unfold uL;rw[length_cons,HR]
 refine ph fun p hs=>?_
 have hl:=rD (x:=p.1) (r2:=p.2) hs;rw[length_cons]at hl;rw[OD r.length p.2 (by omega)]
theorem sG(t:dy):t.length<=(body t).length:=by
 induction t with
 |nil=>simp
 |cons c t ih =>
  have:=(KQ c).2;rw[Ly,length_append,length_cons];omega
theorem qk(t:dy):uL (body t)=some t:=j7 t _ (sG t)
theorem QU{r t:dy}(h:uL r=some t):body t=r:=P8 _ _ _ h
def eu(o:Option dy):dy×Int:=match o with
 |some t=>(t,0)
 |none=>([],8)
def mid(s:dy):dy:=(s.drop 1).take (s.length-2)
def B4(s:dy):Bool:=!((decide ((s.length:Int)<2)||!decide (((s.getD 0 0).toNat:Int)=34))||!decide (((s.getD (s.length-1) 0).toNat:Int)=34))
def jr(s:dy):dy×Int:=bif B4 s then eu (uL (mid s))else([],8)
theorem xd(s:dy)(h:2<=s.length)(h2:s.length<=17179869184):IntKind.i64.wrap ((s.length:Int)-1)=((s.length-1:Nat):Int):=lE _ (by omega) (by omega)
theorem SU(s:dy)(hs:s.length<=17179869184):GG s=some (jr s):=by
 unfold GG jr B4;obtain⟨N,hN⟩:∃N,eV=N:=⟨_,rfl⟩;have hN2:1099511627776<=N:=hN ▸ rt;rw[hN];clear hN
 by_cases h2:2<=s.length
 rotate_left
 .rw[show decide ((s.length:Int)<2)=true by simp;omega]
  simp only[Bool.not_true,Bool.true_or];rw[zg (by intro h;cases h),zg (by intro h;cases h)];rfl
 rw[show decide ((s.length:Int)<2)=false by simp;omega];rw[xd s h2 hs];simp only[Bool.false_or,Int.toNat_natCast];rw[zg (by intro _;omega),zg (by intro _;omega)];generalize (!decide (((s.getD 0 0).toNat:Int)=34)||!decide (((s.getD (s.length-1) 0).toNat:Int)=34))=q;cases q
 rotate_left
 .rfl
 have hm:List.take (s.length-1-1) (List.drop 1 s)=mid s:=by unfold mid;congr 1
 simp only[cond_false,Bool.not_false,cond_true,hm,dH]
 have hml:(mid s).length=s.length-2:=by simp[mid];omega
 rw[zg (by omega),zg (by omega)];refine(Cg (S:=Int×List Int) (fun st=>∃i:Nat,st.1=i/\i<=(mid s).length/\st.2.length<=i) (fun st=>(mid s).length-st.1.toNat) (fun st=>some (eu ((uL ((mid s).drop st.1.toNat)).map (Go.Vc.strOf st.2++·)))) ?_ N _ ⟨0,rfl,by omega,by simp⟩ (by simp only;omega)).trans ?_
 .rintro⟨i',o⟩ nx ⟨i,rfl,hi,ho⟩ hnx
  simp only at ho hnx|-
  by_cases hlt:i<(mid s).length
  .rw[decide_eq_true (by omega),cond_true,Al hlt]
   simp only[Int.toNat_natCast];rw[drop_eq_getElem_cons hlt,qj];generalize hcc:(mid s)[i]=c;rw[show((decide ((c.toNat:Int)<32)||decide (126<(c.toNat:Int)))||decide ((c.toNat:Int)=34))=(sV c||decide ((c.toNat:Int)=34))from rfl];simp only[vN]
   cases hf:sV c||decide ((c.toNat:Int)=34)
   .simp only[cond_false]
    cases hb:decide ((c.toNat:Int)=92)
    .simp only[cond_false]
     rw[fN i (by omega),zg (by simp;omega),hnx _ ⟨i+1,rfl,by omega,by simp;omega⟩ (by simp only[Int.toNat_natCast];omega)];simp only[Int.toNat_natCast];rw[Option.bind_some]
     cases uL ((mid s).drop (i+1))with
     |none=>rfl
     |some t=>simp only[Option.map_some,CA,Cq,Ci,Jm];simp[eu]
    .simp only[cond_true]
     rw[fN i (by omega),zg (by omega)];simp only[Int.toNat_natCast,SM,ze];have hbd:=Bv ((mid s).drop (i+1));rw[length_drop]at hbd;generalize hE:iw ((mid s).drop (i+1))=E at hbd;obtain⟨x,n⟩:=E;simp only at hbd|-;cases hz:decide (n=0)
     .simp only[cond_false]
      have hn0:n≠0:=of_decide_eq_false hz;rw[zg (by simp;omega),gS (n:=(i:Int)+n) (by omega) (by omega),gS (n:=(i:Int)+n+1) (by omega) (by omega)]
      have e:(i:Int)+n+1=((i+n.toNat+1:Nat):Int):=by omega
      rw[e,hnx _ ⟨i+n.toNat+1,rfl,by omega,by simp;omega⟩ (by simp only[Int.toNat_natCast];omega)];simp only[Int.toNat_natCast,drop_drop];rw[show i+1+n.toNat=i+n.toNat+1 by omega];rw[Option.bind_some];simp only
      cases uL ((mid s).drop (i+n.toNat+1))with
      |none=>rfl
      |some t=>simp only[Option.map_some,CA,Cq,Ci];simp[eu]
     .rfl
   .rfl
  .obtain rfl:i=(mid s).length:=by omega
   rw[decide_eq_false (by omega),cond_false,Int.toNat_natCast,drop_length]
   show _=some (Go.Vc.strOf o++[],(0:Int))
   rw[append_nil]
 .simp only[Int.toNat_zero,drop_zero,List.replicate]
  cases uL (mid s)with
  |none=>rfl
  |some t=>rfl
theorem nM(s:dy)(h:B4 s=true):s=34::(mid s++[34]):=by
 unfold B4 at h;simp only[Bool.not_eq_true',Bool.or_eq_false_iff,decide_eq_false_iff_not,Bool.not_eq_false',decide_eq_true_eq]at h;obtain⟨⟨h1,h2⟩,h3⟩:=h
 rcases s with _|⟨c,r⟩
 .simp at h1
 have hr:r≠[]:=by rintro rfl;simp at h1
 have hc:c=34:=by
  have:c.toNat=34:=by rw[getD_cons_zero]at h2;omega
  exact UInt8.toNat_inj.1 this
 have hrl:0<r.length:=length_pos_iff.2 hr
 have hl:r.getLast hr=34:=by
  rw[show(c::r).length-1=(r.length-1)+1 by simp;omega,getD_cons_succ,getD_eq_getElem?_getD,getElem?_eq_getElem (by omega),Option.getD_some]at h3;rw[getLast_eq_getElem]
  have:(r[r.length-1]'(by omega)).toNat=34:=by omega
  exact UInt8.toNat_inj.1 this
 have hm:mid (c::r)=r.dropLast:=by
  unfold mid;rw[dropLast_eq_take];simp
 rw[hm,hc]
 congr 1
 rw[<-hl];exact(dropLast_concat_getLast hr).symm
def jZ{α:Type}(q:Nat->α->Bool):Nat->List α->Bool
 |_,[]=>true
 |i,x::l=>q i x&&jZ q (i+1) l
section
variable {Z α:Type}
theorem kT{f:Nat->α->Unit->(Unit->Option Z)->(Unit->Option Z)->Option Z}{z:Z}(q:Nat->α->Bool)(hf:∀i x nx k,f i x () nx k=bif q i x then nx ()else some z)(k:Unit->Option Z) :
  ∀(l:List α) (i:Nat),forL l i f () k=bif jZ q i l then k ()else some z
 |[],i=>rfl
 |x::l,i=>by
  unfold forL jZ;rw[hf,kT q hf k l (i+1)]
  cases q i x <;> rfl
end
def Ae(c:UInt8):Bool:=decide (97<=(c.toNat:Int))&&decide ((c.toNat:Int)<=122)
def iB(c:UInt8):Bool:=decide (48<=(c.toNat:Int))&&decide ((c.toNat:Int)<=57)
def p5(c:UInt8):Bool:=((Ae c||iB c)||decide ((c.toNat:Int)=45))||decide ((c.toNat:Int)=46)
def eS(s:dy):Bool:=((s.all p5&&(!decide (s=[])&&decide ((s.length:Int)<=40)))&&Ae (s.getD 0 0))
theorem U4(a b:Bool):(a||bif !a then b else false)=(a||b):=by cases a <;> rfl
theorem Tv(c:UInt8):Ix (c.toNat:Int)=some (p5 c):=by
 unfold Ix Ct Gv;simp only[ze,iT,U4];rfl
theorem DZ(s:dy):ta s=some (eS s):=by
 unfold ta LX;simp only[dH];rw[sY p5 (fun i x nx k=>by simp only[Tv,ze];cases p5 x <;> rfl)];simp only[iA,ze];rw[zg]
 .unfold Ct
  simp only[iT];unfold eS Ae;generalize hA:s.all p5=A
  cases A <;> simp only[cond_true,cond_false,Bool.false_and,Bool.true_and]
  generalize hB:(!decide (s=[])&&decide ((s.length:Int)<=40))=B
  cases B <;> rfl
 .intro h
  cases s with
  |nil=>cases hA:List.all [] p5 <;> rw[hA]at h <;> simp at h
  |cons=>simp only[length_cons];omega
theorem pw{α:Type}{q:Nat->α->Bool}{p:α->Bool}:∀(l:List α) (i:Nat),(∀j x,i<=j->q j x=p x)->jZ q i l=l.all p
 |[],i,_=>rfl
 |x::l,i,h=>by
  unfold jZ;rw[h i x (Nat.le_refl _),pw l (i+1) (fun j x hj=>h j x (by omega)),all_cons]
theorem Im(s:dy):Aq s=some (eS s):=by
 unfold Aq;simp only[dH];refine(kT (z:=false) (fun i c=>!((decide ((i:Int)=0)&&!Ae c)||!p5 c)) (fun i c nx k=>?_) _ _ _).trans ?_
 .rw[vc]
  congr 1
  unfold p5 Ae iB;rw[Bool.eq_iff_iff];simp only[Bool.or_eq_true,Bool.and_eq_true,Bool.not_eq_true',decide_eq_true_eq,Bool.or_eq_false_iff,Bool.and_eq_false_iff,decide_eq_false_iff_not,Bool.not_eq_false'];omega
 simp only[iA]
 congr 1
 unfold eS
 cases s with
 |nil=>rfl
 |cons x l =>
  unfold jZ;rw[pw (p:=p5) l 1 (fun j x hj=>by rw[decide_eq_false (by omega)];cases p5 x <;> rfl),all_cons];simp only[getD_cons_zero]
  cases p5 x <;> cases Ae x <;> cases l.all p5 <;> simp
def qi(c:UInt8):Bool:=decide (32<=(c.toNat:Int))&&decide ((c.toNat:Int)<=126)
def pV(s:dy):Bool:=s.all qi&&decide ((s.length:Int)<=1000)
theorem OQ(s:dy):DE s=some (pV s):=by
 unfold DE;simp only[dH];refine(sY (z:=false) qi (fun i c nx k=>?_) _ _ _).trans ?_
 .rw[vc]
  congr 1
  unfold qi;rw[Bool.eq_iff_iff];simp only[Bool.or_eq_true,Bool.and_eq_true,Bool.not_eq_true',decide_eq_true_eq,Bool.or_eq_false_iff,Bool.and_eq_false_iff,decide_eq_false_iff_not,Bool.not_eq_false'];omega
 .simp only[iA]
  unfold pV
  cases s.all qi <;> rfl
theorem O1(s:dy):Gu s=some (pV s):=by
 unfold Gu LY;simp only[dH];rw[sY qi (fun i x nx k=>by unfold Ma qi;simp only[ze];rw[vc,Bool.not_not])];simp only[iA,iT];unfold pV
 cases s with
 |nil=>rfl
 |cons x l=>simp only[show decide (x::l=[])=false from rfl,Bool.not_false,Bool.true_and,cond_true,Bool.false_or];cases List.all (x::l) qi <;> rfl
def yC(c:UInt8):Bool:=((((Ae c||(decide (65<=(c.toNat:Int))&&decide ((c.toNat:Int)<=90)))||iB c)||decide ((c.toNat:Int)=45))||decide ((c.toNat:Int)=46))||decide ((c.toNat:Int)=95)
def vm(s:dy):Bool:=((s.all yC&&(!decide (s=[])&&decide ((s.length:Int)<=40)))&&!decide (s=[46]))&&!decide (s=[46,46])
theorem pC(s:dy):HA s=some (vm s):=by
 unfold HA;simp only[dH];refine(sY (z:=false) yC (fun i c nx k=>?_) _ _ _).trans ?_
 .rw[vc]
  congr 1
  unfold yC Ae iB;rw[Bool.eq_iff_iff];simp only[Bool.or_eq_true,Bool.and_eq_true,Bool.not_eq_true',decide_eq_true_eq,Bool.or_eq_false_iff,Bool.and_eq_false_iff,decide_eq_false_iff_not,Bool.not_eq_false'];omega
 .simp only[iA]
  unfold vm
  cases s.all yC <;> rfl
theorem Pu(a b d:Bool):((a||b)||bif !(a||b)then d else false)=((a||b)||d):=by cases a <;> cases b <;> rfl
theorem SA(s:dy):H9 s=some (vm s):=by
 unfold H9 LZ;simp only[dH]
 rw[sY yC (fun i x nx k=>by
  unfold L2 yC Ct Gv Ae iB;simp only[ze,iT,Pu]
  rw[vc,Bool.not_not])]
 simp only[iA,ze];unfold vm
 cases s.all yC <;> rfl
def eH(s:dy):Bool:=(zR 47 s).all vm&&decide ((s.length:Int)<=200)
theorem Ip(s:dy)(hs:s.length<=17179869184):Ar s=some (eH s):=by
 unfold Ar eH;simp only[dH,M6 s 47 hs,ze];rw[sY vm (fun i x nx k=>by rw[pC,ze,vc,Bool.not_not])]
 cases (zR 47 s).all vm <;> rfl
theorem L9(s:dy)(hs:s.length<=17179869184):DI s=some (eH s):=by
 unfold DI eH;simp only[dH,M6 s 47 hs,ze];rw[sY vm (fun i x nx k=>by rw[SA,ze,vc,Bool.not_not])]
 cases (zR 47 s).all vm <;> rfl
def nk(a b:dy):Bool:=ls a b||decide (a=b)
theorem FV(b:Bool)(e:Int):p6 b e=some (bif b then e else 0):=by cases b <;> rfl
def gy(a b:Int):Int:=bif !decide (a=0)then a else b
theorem Fh(a:Int):pW [a]=some a:=by
 unfold pW;simp only[dH,forL]
 by_cases h:a=0
 .subst h;rfl
 .rw[decide_eq_false h];rfl
theorem Qi(a:Int)(l:List Int)(r:Int)(h:pW l=some r):pW (a::l)=some (gy a r):=by
 unfold pW at *;simp only[dH,forL]at *;unfold gy
 by_cases ha:a=0
 .subst ha
  simp only[decide_true,Bool.not_true,cond_false];rw[<-h]
  have:∀(l:List Int) (i j:Nat),forL l i (fun i_14 e_16 s nx_13 k_12=>bif !decide (e_16=0)then some e_16 else nx_13 ()) () (fun _=>some (0:Int))=forL l j (fun i_14 e_16 s nx_13 k_12=>bif !decide (e_16=0)then some e_16 else nx_13 ()) () (fun _=>some (0:Int)):=by
   intro l
   induction l with
   |nil=>intro i j;rfl
   |cons x l ih=>intro i j;unfold forL;simp only[ih (i+1) (j+1)]
  exact this l _ _
 .rw[decide_eq_false ha];rfl
theorem C5(a b:Int):pW [a,b]=some (gy a b):=Qi a _ _ (Fh b)
theorem Fg(a b c:Int):pW [a,b,c]=some (gy a (gy b c)):=Qi a _ _ (C5 b c)
def uP(s:aa):Int:=bif !eS s.k then 5 else bif !pV s.Value then 2 else 0
def js(s:aa):Int:=bif !eH s.k then 5 else bif !pV s.Value then 2 else 0
def gc(f:ab):Int:=bif !eH f.a then 5 else bif decide (65536<(f.B.length:Int))then 4 else 0
def jL(s:ai):Int:=bif !eS s.w||!eH s.a then 5 else 0
def ord(i:Nat)(a last:dy):Bool:=decide (0<(i:Int))&&nk a last
def ii{α:Type}(e:α->Int)(nm:α->dy):Nat->dy->List α->Int
 |_,_,[]=>0
 |i,last,x::l=>bif !decide (e x=0)then e x else bif ord i (nm x) last then 7 else ii e nm (i+1) (nm x) l
theorem L1{α:Type}(e:α->Int)(nm:α->dy)(a b:dy)(l:List α):ii e nm 0 a l=ii e nm 0 b l:=by
 cases l <;> rfl
section
variable {Z α:Type} {e:α->Int} {nm:α->dy}
theorem CN{f:Nat->α->dy->(dy->Option Int)->(dy->Option Int)->Option Int}{K:dy->Option Int}(P:α->Prop)
  (hf:∀i x last nx k,P x->f i x last nx k=bif !decide (gy (e x) (bif ord i (nm x) last then 7 else 0)=0)then some (gy (e x) (bif ord i (nm x) last then 7 else 0))else nx (nm x)) :
  ∀(l:List α) (i:Nat) (last:dy),(∀x∈l,P x)->∃last',forL l i f last K=bif !decide (ii e nm i last l=0)then some (ii e nm i last l)else K last'
 |[],i,last,_=>⟨last,rfl⟩
 |x::l,i,last,hp=>by
  obtain⟨last',h⟩:=CN P hf l (i+1) (nm x) (fun y hy=>hp y (mem_cons_of_mem _ hy));refine⟨last',?_⟩;unfold forL ii;rw[hf _ _ _ _ _ (hp x (mem_cons_self ..)),h];unfold gy
  by_cases h1:e x=0
  .simp only[h1,decide_true,Bool.not_true,cond_false]
   cases ord i (nm x) last <;> rfl
  .simp only[decide_eq_false h1,Bool.not_false,cond_true]
theorem rX{f:Nat->α->Unit->(Unit->Option Int)->(Unit->Option Int)->Option Int}{K:Unit->Option Int}(P:α->Prop)(L:List α)(d:α)
  (hf:∀(i:Nat) x nx k,P x->i<L.length->f i x () nx k=bif !decide (e x=0)then some (e x)else bif ord i (nm x) (nm (L.getD (i-1) d))then some 7 else nx ()) :
  ∀(l:List α) (i:Nat),L.drop i=l->(∀x∈l,P x)->forL l i f () K=bif !decide (ii e nm i (nm (L.getD (i-1) d)) l=0)then some (ii e nm i (nm (L.getD (i-1) d)) l)else K ()
 |[],i,_,_=>rfl
 |x::l,i,hd,hp=>by
  have hi:i<L.length:=by
   rcases Nat.lt_or_ge i L.length with h|h
   .exact h
   .rw[drop_eq_nil_of_le h]at hd;cases hd
  have hx:L.getD i d=x:=by
   have:=drop_eq_getElem_cons hi;rw[hd]at this;have:=(List.cons.inj this).1
   rw[this];simp[hi]
  have hd':L.drop (i+1)=l:=by
   have:=congrArg List.tail hd
   simpa using this
  unfold forL ii;rw[hf _ _ _ _ (hp x (mem_cons_self ..)) hi,rX P L d hf l (i+1) hd' (fun y hy=>hp y (mem_cons_of_mem _ hy))];simp only[Nat.add_sub_cancel,hx]
  by_cases h1:e x=0
  .simp only[h1,decide_true,Bool.not_true,cond_false]
   cases ord i (nm x) (nm (L.getD (i-1) d)) <;> rfl
  .simp only[decide_eq_false h1,Bool.not_false,cond_true]
end
theorem KO(i:Nat)(s last:dy):Cw (i:Int) s last=some ((bif ord i s last then 7 else 0),s):=by
 unfold Cw
 rw[FV,ze];rfl
def Sm(s:dy):Prop:=s.length<=17179869184
theorem RF(f:ab)(h:Sm f.a):Gk f=some (gc f):=by
 unfold Gk;rw[Ip _ h];simp only[ze,FV,C5];unfold gc gy
 cases eH f.a <;> rfl
theorem RR(f:aa)(h:Sm f.k):GM f=some (js f):=by
 unfold GM;rw[Ip _ h,OQ];simp only[ze,FV,C5];unfold js gy
 cases eH f.k <;> rfl
theorem RQ(f:ai)(h:Sm f.a):GL f=some (jL f):=by
 unfold GL;rw[Ip _ h,Im];simp only[ze,iT,FV];unfold jL
 cases eS f.w <;> cases eH f.a <;> rfl
theorem O2(f:ab)(h:Sm f.a):CD f=some (gc f):=by
 unfold CD;rw[L9 _ h];simp only[ze];unfold gc;cases eH f.a
 .rfl
 .simp only[Bool.not_true,cond_false,iA]
theorem yu(f:aa)(h:Sm f.k):Iq f=some (js f):=by
 unfold Iq CI;rw[L9 _ h,O1];simp only[ze];unfold js
 cases eH f.k <;> cases pV f.Value <;> rfl
theorem uG(f:aa):Iz f=some (uP f):=by
 unfold Iz Mr;rw[DZ,O1];simp only[ze];unfold uP
 cases eS f.k <;> cases pV f.Value <;> rfl
theorem pL(f:ai)(h:Sm f.a):GW f=some (jL f):=by
 unfold GW;rw[L9 _ h,DZ];simp only[ze,iT];unfold jL
 cases eS f.w <;> cases eH f.a <;> rfl
theorem N8{i:Nat}(h:0<i)(h2:i<=274877906944):IntKind.i64.wrap ((i:Int)-1)=((i-1:Nat):Int):=by rw[gS (by omega) (by omega)];omega
theorem Pt{i:Nat}{a b:dy}:(decide (0<(i:Int))&&(ls a b||decide (a=b)))=ord i a b:=rfl
theorem xu(l:List aa)(hl:l.length<=17179869184):Je l=some (ii uP (·.k) 0 [] l):=by
 unfold Je;simp only[dH]
 rw[rX (e:=uP) (nm:=(·.k)) (fun _=>True) l ⟨[],[]⟩ (fun i x nx k _ hi=>by
  rw[uG];simp only[ze,s9,iT]
  cases hg:decide (0<(i:Int))with
  |false=>rw[zg (by intro h;cases h)];unfold ord;rw[hg];rfl
  |true =>
   have hi0:0<i:=by simpa using hg
   rw[N8 hi0 (by omega),zg (by intro _;omega)];simp only[cond_true,Int.toNat_natCast]
   unfold ord nk;rw[hg]) l 0 rfl (fun _ _=>trivial)]
 rw[iA];rw[L1 uP (·.k) _ []];cases h:decide (ii uP (·.k) 0 [] l=0)
 .rfl
 .rw[of_decide_eq_true h];rfl
theorem xt(l:List aa)(hl:l.length<=17179869184)(hs:∀x∈l,Sm x.k):G8 l=some (ii js (·.k) 0 [] l):=by
 unfold G8;simp only[dH]
 rw[rX (e:=js) (nm:=(·.k)) (fun x=>Sm x.k) l ⟨[],[]⟩ (fun i x nx k hx hi=>by
  rw[yu _ hx];simp only[ze,s9,iT]
  cases hg:decide (0<(i:Int))with
  |false=>rw[zg (by intro h;cases h)];unfold ord;rw[hg];rfl
  |true =>
   have hi0:0<i:=by simpa using hg
   rw[N8 hi0 (by omega),zg (by intro _;omega)];simp only[cond_true,Int.toNat_natCast]
   unfold ord nk;rw[hg]) l 0 rfl hs]
 rw[iA];rw[L1 js (·.k) _ []];cases h:decide (ii js (·.k) 0 [] l=0)
 .rfl
 .rw[of_decide_eq_true h];rfl
theorem Bx(l:List ai)(hl:l.length<=17179869184)(hs:∀x∈l,Sm x.a):G7 l=some (ii jL (·.w) 0 [] l):=by
 unfold G7;simp only[dH]
 rw[rX (e:=jL) (nm:=(·.w)) (fun x=>Sm x.a) l ⟨[],[],false,false⟩ (fun i x nx k hx hi=>by
  rw[pL _ hx];simp only[ze,yV,iT]
  cases hg:decide (0<(i:Int))with
  |false=>rw[zg (by intro h;cases h)];unfold ord;rw[hg];rfl
  |true =>
   have hi0:0<i:=by simpa using hg
   rw[N8 hi0 (by omega),zg (by intro _;omega)];simp only[cond_true,Int.toNat_natCast]
   unfold ord nk;rw[hg]) l 0 rfl hs]
 rw[iA];rw[L1 jL (·.w) _ []];cases h:decide (ii jL (·.w) 0 [] l=0)
 .rfl
 .rw[of_decide_eq_true h];rfl
abbrev Mp:=List (dy×Bool)
def gM(m:Mp)(path:dy)(i:Nat)(c:UInt8):Bool:=!(decide ((c.toNat:Int)=47)&&(zG m (path.take i)).getD false)
def y2(m:Mp)(path:dy):Bool:=jZ (gM m path) 0 path
def vj:Nat->dy->Mp->List ab->Int
 |_,_,_,[]=>0
 |i,last,m,x::l=>bif !decide (gc x=0)then gc x else bif ord i x.a last then 7 else bif !y2 m x.a then 11 else vj (i+1) x.a (dF m x.a true) l
theorem oF(a b:dy)(m:Mp)(l:List ab):vj 0 a m l=vj 0 b m l:=by cases l <;> rfl
theorem Lp:∀(m:Mp) (k:dy) (v:Bool),(dF m k v).length<=m.length+1
 |[],k,v=>by simp[dF]
 |p::m,k,v=>by
  unfold dF;have:=Lp m k v
  cases decide (p.1=k) <;> simp <;> omega
theorem yl(path:dy)(m:Mp):GA path m=some (y2 m path):=by
 unfold GA;simp only[dH]
 have hk:∀i:Nat,True:=fun _=>trivial
 have:∀(l:dy) (i:Nat),path.drop i=l->forL l i (fun i_44 c_46 s nx_43 k_42 =>
  dA ((decide ((c_46.toNat:Int)=47))=true->(0<=(i_44:Int)/\(i_44:Int)<=(path.length:Int))) <|
  callG (decide ((c_46.toNat:Int)=47)) (IU (List.take i_44 path) m) false fun r_48 =>
  bif ((decide ((c_46.toNat:Int)=47))&&(!r_48))then
   some false
  else
  nx_43 ()) () (fun _=>some true)=some (jZ (gM m path) i l):=by
  intro l
  induction l with
  |nil=>intro i _;rfl
  |cons c l ih =>
   intro i hd
   have hi:i<path.length:=by
    rcases Nat.lt_or_ge i path.length with h|h
    .exact h
    .rw[drop_eq_nil_of_le h]at hd;cases hd
   unfold forL jZ;simp only[ih (i+1) (by have:=congrArg List.tail hd;simpa using this)];rw[zg (by intro _;omega)];simp only[IU,fj,iT];unfold gM
   cases decide ((c.toNat:Int)=47) <;> cases (zG m (List.take i path)).getD false <;> rfl
 exact this path 0 rfl
theorem Qz(path:dy)(m:Mp){f:Int×Int->(Int×Int->Option Int)->(Int×Int->Option Int)->Option Int}{K:Int×Int->Option Int}(hp:path.length<=17179869184)
  (hf:∀(e:Int) (i:Nat) nx,f (e,(i:Int)) nx K=if h:i<path.length then nx ((bif gM m path i path[i]then e else 11),((i+1:Nat):Int))else K (e,(i:Int))) :
  ∀(n:Nat) (e:Int) (i:Nat),path.length+1<=n+i->i<=path.length->loopN n f (e,(i:Int)) K=K ((bif jZ (gM m path) i (path.drop i)then e else 11),(path.length:Int))
 |0,e,i,h1,h2=>by omega
 |n+1,e,i,h1,h2=>by
  unfold loopN;rw[hf]
  by_cases h:i<path.length
  .rw[dif_pos h,Qz path m hp hf n _ (i+1) (by omega) (by omega),drop_eq_getElem_cons h]
   rw[show jZ (gM m path) i (path[i]::path.drop (i+1))=(gM m path i path[i]&&jZ (gM m path) (i+1) (path.drop (i+1)))from rfl]
   cases gM m path i path[i] <;> cases jZ (gM m path) (i+1) (path.drop (i+1)) <;> rfl
  .have:i=path.length:=by omega
   subst this
   rw[dif_neg h,drop_length];rfl
theorem qY{f:Nat->ab->dy×Mp->(dy×Mp->Option Int)->(dy×Mp->Option Int)->Option Int}{K:dy×Mp->Option Int}
  (hf:∀(i:Nat) x last (m:Mp) nx,Sm x.a->m.length+1<=17179869184->f i x (last,m) nx K=bif !decide (gc x=0)then some (gc x)else bif ord i x.a last then some 7 else bif !y2 m x.a then some 11 else nx (x.a,dF m x.a true)) :
  ∀(l:List ab) (i:Nat) (last:dy) (m:Mp),m.length+l.length<=17179869184->(∀x∈l,Sm x.a)->∃s',forL l i f (last,m) K=bif !decide (vj i last m l=0)then some (vj i last m l)else K s'
 |[],i,last,m,_,_=>⟨(last,m),rfl⟩
 |x::l,i,last,m,hm,hp=>by
  have ha:=Lp m x.a true;simp only[length_cons]at hm;obtain⟨s',h⟩:=qY hf l (i+1) x.a (dF m x.a true) (by omega) (fun y hy=>hp y (mem_cons_of_mem _ hy));refine⟨s',?_⟩;unfold forL vj;rw[hf _ _ _ _ _ (hp x (mem_cons_self ..)) (by omega),h]
  by_cases h1:gc x=0
  .simp only[h1,decide_true,Bool.not_true,cond_false]
   cases ord i x.a last
   .cases y2 m x.a <;> rfl
   .rfl
  .simp only[decide_eq_false h1,Bool.not_false,cond_true]
def Ab(m:ah):Int :=
 bif ((((decide (100<(m.y.length:Int)))||(decide (2000<(m.h.length:Int))))||(decide (2000<(m.r.length:Int))))||(decide (100<(m.o.length:Int))))then 4 else
 gy (ii uP (·.k) 0 [] m.y) (gy (vj 0 [] [] m.h) (gy (ii js (·.k) 0 [] m.r) (ii jL (·.w) 0 [] m.o)))
structure FG(m:ah):Prop where
 facts:m.y.length<=17179869184
 files:m.h.length<=17179869184
 sets:m.r.length<=17179869184
 svcs:m.o.length<=17179869184
 fp:∀x∈m.h,Sm x.a
 sp:∀x∈m.r,Sm x.k
 vp:∀x∈m.o,Sm x.a
theorem HK(a b:Int)(o:Option Int)(h:o=some b):(bif !decide (a=0)then some a else o)=some (gy a b):=by
 subst h;unfold gy;cases decide (a=0) <;> rfl
theorem OK(m:ah)(h:FG m):DJ m=some (Ab m):=by
 unfold DJ Ab;generalize ((((decide (100<(m.y.length:Int)))||(decide (2000<(m.h.length:Int))))||(decide (2000<(m.r.length:Int))))||(decide (100<(m.o.length:Int))))=B
 cases B with
 |true=>rfl
 |false =>
  simp only[cond_false];rw[xu _ h.facts,ze];refine HK _ _ _ ?_;simp only[dH]
  obtain⟨s',hs⟩:=qY (f:=fun i_47 f_49 s nx_46 k_45 =>
   match s with
   |(before_37,m1_39) =>
    call (CD f_49) fun r_50 =>
    bif !decide (r_50=0)then
     some r_50
    else
    bif ((decide (0<(i_47:Int)))&&(ls f_49.a before_37||decide (f_49.a=before_37)))then
     some 7
    else
    call (GA f_49.a m1_39) fun r_51 =>
    bif !r_51 then
     some 11
    else
    dA ((dF m1_39 f_49.a true).length<=274877906944) <|
    nx_46 (f_49.a,dF m1_39 f_49.a true)) (K:=fun s=>match s with
   |(before_37,m1_39)=>call (G8 m.r) fun r_28 =>
    bif !decide (r_28=0)then
     some r_28
    else
    call (G7 m.o) fun r_29 =>
    some r_29) (fun i x last mm nx hx hl=>by
    have ha:=Lp mm x.a true;simp only[O2 _ hx,ze,yl,Pt]
    rw[zg (by omega)]) m.h 0 [] [] (by simpa using h.files) h.fp
  rw[hs];refine HK _ _ _ ?_;obtain⟨x,y⟩:=s';simp only[xt _ h.sets h.sp,Bx _ h.svcs h.vp,ze];exact HK _ _ _ rfl
theorem Nk{α:Type}{e:α->Int}{nm:α->dy}{f:Nat->α->dy->(dy->Option Int)->(dy->Option Int)->Option Int}{K:dy->Option Int}{r:Int}{l:List α}{last:dy}(P:α->Prop)
  (hf:∀i x last nx k,P x->f i x last nx k=bif !decide (gy (e x) (bif ord i (nm x) last then 7 else 0)=0)then some (gy (e x) (bif ord i (nm x) last then 7 else 0))else nx (nm x))
  (hp:∀x∈l,P x) (hK:∀last,K last=some r):forL l 0 f last K=some (gy (ii e nm 0 [] l) r):=by
 obtain⟨last',h⟩:=CN (K:=K) P hf l 0 last hp;rw[h,L1 e nm last []];exact HK _ _ _ (hK _)
theorem ud{f:Nat->ab->dy×Mp->(dy×Mp->Option Int)->(dy×Mp->Option Int)->Option Int}{K:dy×Mp->Option Int}{r:Int}{l:List ab}{last:dy}
  (hf:∀(i:Nat) x last (m:Mp) nx,Sm x.a->m.length+1<=17179869184->f i x (last,m) nx K=bif !decide (gc x=0)then some (gc x)else bif ord i x.a last then some 7 else bif !y2 m x.a then some 11 else nx (x.a,dF m x.a true))
  (hl:l.length<=17179869184) (hp:∀x∈l,Sm x.a) (hK:∀s,K s=some r):forL l 0 f (last,[]) K=some (gy (vj 0 [] [] l) r):=by
 obtain⟨s',h⟩:=qY (K:=K) hf l 0 last [] (by simpa using hl) hp;rw[h,oF last []];exact HK _ _ _ (hK _)
theorem ux(path:dy)(m:Mp){f:Int×Int->(Int×Int->Option Int)->(Int×Int->Option Int)->Option Int}{K:Int×Int->Option Int}{N:Nat}{e:Int}(hN:1099511627776<=N)(hp:path.length<=17179869184)
  (hf:∀(e:Int) (i:Nat) nx,f (e,(i:Int)) nx K=if h:i<path.length then nx ((bif gM m path i path[i]then e else 11),((i+1:Nat):Int))else K (e,(i:Int))) :
  loopN N f (e,0) K=K ((bif y2 m path then e else 11),(path.length:Int)) :=
 Qz path m hp hf N e 0 (by omega) (by omega)
theorem PY(m:ah)(h:FG m):FX m=some (Ab m):=by
 unfold FX Ab;generalize ((((decide (100<(m.y.length:Int)))||(decide (2000<(m.h.length:Int))))||(decide (2000<(m.r.length:Int))))||(decide (100<(m.o.length:Int))))=B;obtain⟨N,hN⟩:∃N,eV=N:=⟨_,rfl⟩;have hN2:1099511627776<=N:=hN ▸ rt;rw[hN];clear hN
 cases B with
 |true=>rfl
 |false =>
  simp only[cond_false,dH]
  refine Nk (e:=uP) (nm:=(·.k)) (fun _=>True) (fun i x last nx k _=>?_) (fun _ _=>trivial) fun last=>?_
  .simp only[Im,OQ,ze,FV,KO,Fg]
   unfold uP gy
   cases eS x.k <;> cases pV x.Value <;> cases ord i x.k last <;> rfl
  refine ud (fun i x last mm nx hx hl=>?_) h.files h.fp fun s=>?_
  .have ha:=Lp mm x.a true
   simp only[RF _ hx,ze,KO,C5]
   by_cases h1:gc x=0
   .cases ho:ord i x.a last with
    |true=>simp only[h1,cond_true,show gy 0 7=7 from rfl];rfl
    |false =>
     simp only[h1,cond_false,show gy 0 0=0 from rfl,decide_true,Bool.not_true,cond_true];rw[ux x.a mm hN2 hx (fun e i nx=>?_)]
     .rw[zg (by omega)]
      cases y2 mm x.a <;> rfl
     .simp only[fj]
      by_cases hi:i<x.a.length
      .rw[dif_pos hi,decide_eq_true (by omega),cond_true,Al hi,zg (by intro _;omega)]
       have hw:IntKind.i64.wrap ((i:Int)+1)=((i+1:Nat):Int):=by
        have:x.a.length<=17179869184:=hx
        rw[gS (by omega) (by omega)];rfl
       simp only[hw,Int.toNat_natCast];unfold gM
       cases decide (((x.a[i]).toNat:Int)=47)&&(zG mm (List.take i x.a)).getD false <;> rfl
      .rw[dif_neg hi,decide_eq_false (by omega),cond_false]
   .have:gy (gc x) (bif ord i x.a last then 7 else 0)=gc x:=by unfold gy;rw[decide_eq_false h1];rfl
    simp only[this,decide_eq_false h1,Bool.not_false,cond_true,cond_false]
  obtain⟨last,mm⟩:=s
  refine Nk (e:=js) (nm:=(·.k)) (fun x=>Sm x.k) (fun i x last nx k hx=>?_) h.sp fun last=>?_
  .simp only[RR _ hx,ze,KO,C5]
  rw[show ii jL (fun x=>x.w) 0 [] m.o=gy (ii jL (fun x=>x.w) 0 [] m.o) 0 by unfold gy;cases hh:decide (ii jL (fun x=>x.w) 0 [] m.o=0) <;> simp_all]
  refine Nk (e:=jL) (nm:=(·.w)) (fun x=>Sm x.a) (fun i x last nx k hx=>?_) h.vp fun last=>rfl
  simp only[RQ _ hx,ze,KO,C5]
abbrev m8:dy:=[102,97,99,116]
abbrev gU:dy:=[115,101,116]
abbrev m7:dy:=[102,105,108,101]
abbrev qh:dy:=[114,117,110]
abbrev gj:dy:=[112,117,116]
abbrev mQ:dy:=[112,117,116,114,117,110]
abbrev uY:dy:=[115,101,114,118,105,99,101]
abbrev uV:dy:=[114,101,109,111,118,101]
abbrev uU:dy:=[117,110,115,101,116]
abbrev uM:dy:=[100,114,111,112]
def eE:ab:=⟨[],[],false⟩
def eI:aa:=⟨[],[]⟩
def eC:ai:=⟨[],[],false,false⟩
def gY(s:dy):Bool:=decide (s=([48]:dy))||decide (s=([49]:dy))
def gH(k:dy):List dy->Option ai
 |[a,b,c]=>bif (decide (a=[])||!gY b)||!gY c then none else some ⟨k,a,decide (b=([49]:dy)),decide (c=([49]:dy))⟩
 |_=>none
def jP(l:dy):dy:=(dN 32 l).1
def mP(l:dy):dy:=(dN 32 l).2.1
def fU(l:dy):dy:=(dN 32 (mP l)).1
def zcc(l:dy):dy:=(dN 32 (mP l)).2.1
def fM(l:dy):Bool:=(dN 32 (mP l)).2.2
def fm(l:dy):al×Bool :=
 let w:=jP l;let k:=fU l;let u:=jr (zcc l)
 bif !(dN 32 l).2.2||decide (k=[])then(⟨[],eE,eI,eC⟩,false)else
 bif decide (w=m8)||decide (w=gU)then(⟨w,eE,⟨k,u.1⟩,eC⟩,fM l&&decide (u.2=0))else
 bif ((decide (w=m7)||decide (w=qh))||decide (w=gj))||decide (w=mQ)then(⟨w,⟨k,u.1,decide (w=qh)||decide (w=mQ)⟩,eI,eC⟩,fM l&&decide (u.2=0))else
 bif decide (w=uY)then(match fM l,gH k (zR 32 (zcc l))with
  |true,some s=>(⟨w,eE,eI,s⟩,true)
  |_,_=>(⟨[],eE,eI,eC⟩,false))else
 bif decide (w=uV)then(⟨w,⟨k,[],false⟩,eI,eC⟩,!fM l)else
 bif decide (w=uU)then(⟨w,eE,⟨k,[]⟩,eC⟩,!fM l)else
 bif decide (w=uM)then(⟨w,eE,eI,⟨k,[],false,false⟩⟩,!fM l)else
 (⟨w,eE,eI,eC⟩,!fM l)
theorem PA{p:List dy}(h:p.length=3):∃a b c,p=[a,b,c]:=by
 rcases p with _|⟨a,_|⟨b,_|⟨c,_|⟨d,p⟩⟩⟩⟩ <;> simp at h
 exact⟨a,b,c,rfl⟩
theorem nJ(l:dy)(hl:l.length<=17179869184):GB l=some (fm l):=by
 have h1:=Av 32 l;have h2:=Av 32 (mP l);unfold GB;rw[rc l 32 (by omega),ze,rc _ 32 (by omega),ze];rw[show(dN 32 l).1=jP l from rfl,show(dN 32 l).2.1=mP l from rfl]at *;rw[show(dN 32 (mP l)).1=fU l from rfl,show(dN 32 (mP l)).2.1=zcc l from rfl,show(dN 32 (mP l)).2.2=fM l from rfl]at *;unfold fm
 have hv:(zcc l).length<=17179869184:=by omega
 simp only[SU _ hv,M6 _ 32 hv,ze,dH];generalize jP l=w;generalize fU l=k;generalize zcc l=v;generalize fM l=two;cases (!(dN 32 l).2.2||decide (k=[]))
 rotate_left
 .rfl
 simp only[cond_false];cases e1:decide (w=m8)
 rotate_left
 .rfl
 simp only[cond_false,Bool.false_or];cases e2:decide (w=gU)
 rotate_left
 .rfl
 simp only[cond_false];cases e3:decide (w=m7)
 rotate_left
 .simp only[cond_true,Bool.true_or];rfl
 simp only[cond_false,Bool.false_or];cases e4:decide (w=qh)
 rotate_left
 .simp only[cond_true,Bool.true_or];rfl
 simp only[cond_false,Bool.false_or];cases e5:decide (w=gj)
 rotate_left
 .simp only[cond_true,Bool.true_or];rfl
 simp only[cond_false,Bool.false_or];cases e6:decide (w=mQ)
 rotate_left
 .simp only[cond_true];rfl
 simp only[cond_false];cases e7:decide (w=uY)
 rotate_left
 .simp only[cond_true]
  by_cases h3:(zR 32 v).length=3
  .obtain⟨a,b,c,hp⟩:=PA h3
   rw[hp];simp only[H3,iT];cases two
   .simp only[Bool.not_false,Bool.true_or,Bool.not_true,cond_true]
    rw[zg (by intro h;cases h),zg (by intro h;cases h),zg (by intro h;cases h)];rfl
   .rw[zg (by intro _;simp),zg (by intro _;simp),zg (by intro _;simp)]
    simp only[show decide ((([a,b,c]:List dy).length:Int)=3)=true from rfl,Bool.not_true,Bool.or_self,Bool.false_or,show([a,b,c]:List dy).getD 0 []=a from rfl,show([a,b,c]:List dy).getD 1 []=b from rfl,show([a,b,c]:List dy).getD 2 []=c from rfl];simp only[gH];rw[show(decide (b=([48]:dy))||decide (b=([49]:dy)))=gY b from rfl,show(decide (c=([48]:dy))||decide (c=([49]:dy)))=gY c from rfl];cases decide (a=([]:dy))
    .cases gY b
     .rfl
     .cases gY c
      .rfl
      .simp only[Bool.not_false,Bool.not_true,cond_true,cond_false,Bool.or_self]
       show eB [a,b,c] ((0:Nat):Int) _=_
       rw[ft (by simp)]
       show eB [a,b,c] ((1:Nat):Int) _=_
       rw[ft (by simp)]
       show eB [a,b,c] ((2:Nat):Int) _=_
       rw[ft (by simp)];rfl
    .rfl
  .have hd:decide (((zR 32 v).length:Int)=3)=false:=by simp only[decide_eq_false_iff_not];omega
   have hs:gH k (zR 32 v)=none:=by
    unfold gH;split
    .rename_i h;rw[h]at h3;simp at h3
    .rfl
   rw[hd,hs];simp only[Bool.not_false,Bool.or_true,Bool.not_true,Bool.true_or,Ot,iT,cond_true,cond_false];rw[zg (by intro h;cases h),zg (by intro h;cases h),zg (by intro h;cases h)]
   cases two <;> rfl
 simp only[cond_false];cases e8:decide (w=uV)
 rotate_left
 .rfl
 simp only[cond_false];cases e9:decide (w=uU)
 rotate_left
 .rfl
 simp only[cond_false];cases e10:decide (w=uM)
 rotate_left
 .rfl
 rfl
theorem vR{k:dy}{p:List dy}{s:ai}(h:gH k p=some s):∃x∈p,s.a=x:=by
 unfold gH at h;split at h
 .rename_i a b c
  cases hq:(decide (a=[])||!gY b)||!gY c
  .rw[hq,cond_false]at h
   have:=(Option.some.inj h).symm;exact⟨a,by simp,by rw[this]⟩
  .rw[hq]at h;cases h
 .cases h
theorem kM(l:dy):(fU l).length<=l.length/\(zcc l).length<=l.length:=by
 have h1:=Av 32 l;have h2:=Av 32 (mP l);have:(mP l).length<=l.length:=h1.2.1;unfold fU zcc;omega
theorem LF{α:Type}(l:List α)(q:α->α->Bool)(hq:∀x,q x x=true):∀(r:List α) (i:Nat),l.drop i=r->forL r i (fun i x (_:Unit) nx (_:Unit->Option Bool)=>eB l (i:Int) fun y=>bif !q x y then some false else nx ()) () (fun _=>some true)=some true
 |[],i,_=>rfl
 |x::r,i,hd=>by
  have hi:i<l.length:=by
   rcases Nat.lt_or_ge i l.length with h|h
   .exact h
   .rw[drop_eq_nil_of_le h]at hd;cases hd
  have hx:l[i]=x:=by
   have:=drop_eq_getElem_cons hi;rw[hd]at this;exact(List.cons.inj this).1.symm
  have hd':l.drop (i+1)=r:=by
   have:=congrArg List.tail hd
   simpa using this
  unfold forL;simp only[ft hi,hx,hq,Bool.not_true,cond_false];exact LF l q hq r (i+1) hd'
theorem nw(l:List aa):zL l l=some true:=by
 unfold zL;rw[decide_eq_true rfl];exact LF l (fun a b=>decide (a.k=b.k)&&decide (a.Value=b.Value)) (fun x=>by simp) l 0 rfl
theorem tG(l:List ab):I8 l l=some true:=by
 unfold I8;rw[decide_eq_true rfl];exact LF l (fun a b=>decide (a.a=b.a)&&(decide (a.B=b.B)&&decide (a.C=b.C))) (fun x=>by simp) l 0 rfl
theorem wc(l:List ai):Jb l l=some true:=by
 unfold Jb;rw[decide_eq_true rfl];exact LF l (fun a b=>decide (a.w=b.w)&&(decide (a.a=b.a)&&(decide (a.D=b.D)&&decide (a.E=b.E)))) (fun x=>by simp) l 0 rfl
theorem tF(m:ah):jm m m=some true:=by
 unfold jm;rw[nw,tG,nw,wc];rfl
def ju(c:ae):Int :=
 bif decide (c.u=1)then gc c.i else
 bif decide (c.u=2)then(bif !eH c.i.a then 5 else 0)else
 bif decide (c.u=3)then js c.z else
 bif decide (c.u=4)then(bif !eH c.z.k then 5 else 0)else
 bif decide (c.u=5)then jL c.q else
 bif !eS c.q.w then 5 else 0
def mO(c:ae):ae :=
 bif decide (c.u=1)then⟨c.u,c.i,eI,eC⟩else
 bif decide (c.u=2)then⟨c.u,⟨c.i.a,[],false⟩,eI,eC⟩else
 bif decide (c.u=3)then⟨c.u,eE,c.z,eC⟩else
 bif decide (c.u=4)then⟨c.u,eE,⟨c.z.k,[]⟩,eC⟩else
 bif decide (c.u=5)then⟨c.u,eE,eI,c.q⟩else
 ⟨c.u,eE,eI,⟨c.q.w,[],false,false⟩⟩
def uR(c:ae):Bool:=decide (1<=c.u)&&decide (c.u<=6)
def iQ(a b:ab):Bool:=decide (a.a=b.a)&&(decide (a.B=b.B)&&decide (a.C=b.C))
def iM(a b:aa):Bool:=decide (a.k=b.k)&&decide (a.Value=b.Value)
def jM(a b:ai):Bool:=decide (a.w=b.w)&&(decide (a.a=b.a)&&(decide (a.D=b.D)&&decide (a.E=b.E)))
def iH(a b:ae):Bool:=(iQ a.i b.i&&(iM a.z b.z&&jM a.q b.q))
theorem NB{a b:ab}(h:iQ a b=true):a=b:=by
 obtain⟨a1,a2,a3⟩:=a;obtain⟨b1,b2,b3⟩:=b;simp only[iQ,Bool.and_eq_true,decide_eq_true_eq]at h
 obtain⟨rfl,rfl,rfl⟩:=h;rfl
theorem MX{a b:aa}(h:iM a b=true):a=b:=by
 obtain⟨a1,a2⟩:=a;obtain⟨b1,b2⟩:=b;simp only[iM,Bool.and_eq_true,decide_eq_true_eq]at h
 obtain⟨rfl,rfl⟩:=h;rfl
theorem MY{a b:ai}(h:jM a b=true):a=b:=by
 obtain⟨a1,a2,a3,a4⟩:=a;obtain⟨b1,b2,b3,b4⟩:=b;simp only[jM,Bool.and_eq_true,decide_eq_true_eq]at h
 obtain⟨rfl,rfl,rfl,rfl⟩:=h;rfl
theorem Fk{a b:ae}(hk:a.u=b.u)(h:iH a b=true):a=b:=by
 obtain⟨a0,a1,a2,a3⟩:=a;obtain⟨b0,b1,b2,b3⟩:=b;simp only[iH,Bool.and_eq_true]at h;obtain⟨h1,h2,h3⟩:=h;simp only at hk;rw[hk,NB h1,MX h2,MY h3]
def eCh(c:ae):Int:=bif !uR c then 1 else bif decide (ju c=0)&&!iH c (mO c)then 2 else ju c
structure gZ(c:ae):Prop where
 fp:Sm c.i.a
 sp:Sm c.z.k
 vp:Sm c.q.a
theorem yv(f:aa)(h:Sm f.k):CI f=some (js f):=by
 unfold CI;rw[L9 _ h,O1];simp only[ze];unfold js
 cases eH f.k <;> cases pV f.Value <;> rfl
theorem tg:pV []=true:=rfl
theorem ui(p:dy):gc ⟨p,[],false⟩=bif !eH p then 5 else 0:=by
 unfold gc
 cases eH p <;> rfl
theorem xv(p:dy):js ⟨p,[]⟩=bif !eH p then 5 else 0:=by
 unfold js;simp only[tg]
 cases eH p <;> rfl
theorem mc{n:Int}(h:(decide (1<=n)&&decide (n<=6))=true):n=1∨n=2∨n=3∨n=4∨n=5∨n=6:=by
 simp only[Bool.and_eq_true,decide_eq_true_eq]at h;omega
theorem w8{n:Int}(h:(decide (1<=n)&&decide (n<=6))=false):decide (n=1)=false/\decide (n=2)=false/\decide (n=3)=false/\decide (n=4)=false/\decide (n=5)=false/\decide (n=6)=false:=by
 simp only[Bool.and_eq_false_iff,decide_eq_false_iff_not]at h
 refine⟨?_,?_,?_,?_,?_,?_⟩ <;> (simp only[decide_eq_false_iff_not];omega)
theorem OC(c:ae)(h:gZ c):D2 c=some (eCh c):=by
 unfold D2 eCh uR;simp only[dH];cases hk:decide (1<=c.u)&&decide (c.u<=6)
 .obtain⟨h1,h2,h3,h4,h5,h6⟩:=w8 hk
  rw[h1,h2,h3,h4,h5,h6];rfl
 .simp only[Bool.not_true,cond_false]
  rw[O2 _ h.fp,O2 _ (show Sm (ab.mk c.i.a [] false).a from h.fp),yv _ h.sp,yv _ (show Sm (aa.mk c.z.k []).k from h.sp),pL _ h.vp,DZ];simp only[ze,ui,xv,decide_true,Bool.true_and];unfold ju mO
  rcases mc hk with e|e|e|e|e|e
  all_goals
   rw[e]
   simp only[show decide ((1:Int)=1)=true from rfl,show decide ((2:Int)=1)=false from rfl,show decide ((2:Int)=2)=true from rfl,show decide ((3:Int)=1)=false from rfl,show decide ((3:Int)=2)=false from rfl,show decide ((3:Int)=3)=true from rfl,show decide ((4:Int)=1)=false from rfl,show decide ((4:Int)=2)=false from rfl,show decide ((4:Int)=3)=false from rfl,show decide ((4:Int)=4)=true from rfl,
    show decide ((5:Int)=1)=false from rfl,show decide ((5:Int)=2)=false from rfl,show decide ((5:Int)=3)=false from rfl,show decide ((5:Int)=4)=false from rfl,show decide ((5:Int)=5)=true from rfl,show decide ((6:Int)=1)=false from rfl,show decide ((6:Int)=2)=false from rfl,show decide ((6:Int)=3)=false from rfl,show decide ((6:Int)=4)=false from rfl,show decide ((6:Int)=5)=false from rfl,show decide ((6:Int)=6)=true from rfl,decide_true,cond_true,cond_false]
   simp only[iA,iH,iQ,iM,jM,eE,eI,eC,decide_true,Bool.true_and,Bool.and_true,Bool.and_assoc]
  .rfl
  .rfl
  .rfl
  .rfl
  .rfl
  .cases eS c.q.w <;> rfl
theorem wG(a:Int)(q:Bool):gy a (bif !q then 2 else 0)=bif decide (a=0)&&!q then 2 else a:=by
 unfold gy
 by_cases h:a=0
 .subst h;cases q <;> rfl
 .rw[decide_eq_false h];rfl
theorem pD(c:ae)(h:gZ c):IE c=some (eCh c):=by
 unfold IE eCh uR;simp only[dH];cases hk:decide (1<=c.u)&&decide (c.u<=6)
 .obtain⟨h1,h2,h3,h4,h5,h6⟩:=w8 hk
  rw[h1,h2,h3,h4,h5,h6];rfl
 .simp only[Bool.not_true,cond_false]
  rw[RF _ h.fp,RR _ h.sp,RQ _ h.vp,Im,Ip _ h.fp,Ip _ h.sp];simp only[ze,FV,C5,decide_true,Bool.true_and,wG];unfold ju mO
  rcases mc hk with e|e|e|e|e|e
  all_goals
   rw[e]
   simp only[show decide ((1:Int)=1)=true from rfl,show decide ((2:Int)=1)=false from rfl,show decide ((2:Int)=2)=true from rfl,show decide ((3:Int)=1)=false from rfl,show decide ((3:Int)=2)=false from rfl,show decide ((3:Int)=3)=true from rfl,show decide ((4:Int)=1)=false from rfl,show decide ((4:Int)=2)=false from rfl,show decide ((4:Int)=3)=false from rfl,show decide ((4:Int)=4)=true from rfl,
    show decide ((5:Int)=1)=false from rfl,show decide ((5:Int)=2)=false from rfl,show decide ((5:Int)=3)=false from rfl,show decide ((5:Int)=4)=false from rfl,show decide ((5:Int)=5)=true from rfl,show decide ((6:Int)=1)=false from rfl,show decide ((6:Int)=2)=false from rfl,show decide ((6:Int)=3)=false from rfl,show decide ((6:Int)=4)=false from rfl,show decide ((6:Int)=5)=false from rfl,show decide ((6:Int)=6)=true from rfl,decide_true,cond_true,cond_false]
   simp only[iA,iH,iQ,iM,jM,eE,eI,eC,decide_true,Bool.true_and,Bool.and_true,Bool.and_assoc]
  .rfl
  .rfl
  .rfl
  .rfl
  .rfl
  .rfl
def eD:List ae->Int
 |[]=>0
 |c::l=>bif !decide (eCh c=0)then eCh c else eD l
theorem Q5:∀(l:List ae),(∀c∈l,gZ c)->D1 l=some (eD l):=by
 intro l hl;unfold D1;simp only[dH];refine KY (fun i l (_:Unit)=>∀c∈l,gZ c) (fun i l _=>some (eD l)) (fun i s h=>rfl) (fun i c l s nx h hnx=>?_) l 0 () hl;rw[OC c (h c (mem_cons_self ..)),ze,hnx () (fun d hd=>h d (mem_cons_of_mem _ hd))];simp only[eD,iA]
theorem Gb:∀{l:List ae},eD l=0->∀c∈l,eCh c=0
 |[],_,c,hc=>by cases hc
 |d::l,h,c,hc=>by
  simp only[eD]at h;cases hd:decide (eCh d=0)
  .rw[hd]at h
   exact absurd h (of_decide_eq_false hd)
  .rw[hd]at h
   rcases mem_cons.1 hc with rfl|hc
   .exact of_decide_eq_true hd
   .exact Gb h c hc
theorem F1{c:ae}(h:eCh c=0):uR c=true/\ju c=0/\c=mO c:=by
 unfold eCh at h;cases hk:uR c
 .rw[hk]at h;simp at h
 .rw[hk]at h
  simp only[Bool.not_true,cond_false]at h;cases hq:decide (ju c=0)&&!iH c (mO c)
  .rw[hq,cond_false]at h
   rw[h]at hq;simp only[decide_true,Bool.true_and,Bool.not_eq_false']at hq;refine⟨rfl,h,Fk ?_ hq⟩;unfold mO
   cases decide (c.u=1) <;> cases decide (c.u=2) <;> cases decide (c.u=3) <;> cases decide (c.u=4) <;> cases decide (c.u=5) <;> rfl
  .rw[hq]at h;simp at h
def jK(b:Bool):dy:=bif b then [49]else [48]
theorem C4(b:Bool):HF b=some (jK b):=by cases b <;> rfl
theorem FZ(b:Bool):(jK b).length=1:=by cases b <;> rfl
def jf(w:dy)(f:ab):dy:=w++32::(f.a++32::iO f.B)
def qx(s:aa):dy:=gU++32::(s.k++32::iO s.Value)
def qt(s:ai):dy:=uY++32::(s.w++32::(s.a++32::(jK s.D++32::jK s.E)))
def iN(c:ae):dy :=
 bif decide (c.u=1)then jf (bif c.i.C then mQ else gj) c.i else
 bif decide (c.u=2)then uV++32::c.i.a else
 bif decide (c.u=3)then qx c.z else
 bif decide (c.u=4)then uU++32::c.z.k else
 bif decide (c.u=5)then qt c.q else
 uM++32::c.q.w
def gg(l:List ae):dy:=l.flatMap fun c=>iN c++[10]
theorem Gy(c:ae)(l:List ae):gg (c::l)=iN c++[10]++gg l:=by simp[gg]
theorem BH(o:dy):Pk o=some ():=rfl
theorem Ap(s o:dy)(h:(o++s).length<=274877906944):zi s o=some ((s.length:Int),o++s):=by
 unfold zi;rw[BH,ze,zg h]
theorem tA(o:dy):CF o=some o:=rfl
theorem SY(s:aa)(h:(qx s).length<274877906944)(hv:s.Value.length<=17179869184):IK gU s=some (qx s++[10]):=by
 unfold IK;simp only[qx,length_append,length_cons]at h;rw[zg (by simp),zg (by simp;omega),zg (by simp;omega),Rj _ hv,ze,zg (by simp;omega),zg (by simp;omega)];simp[qx]
theorem oG(w r:dy)(f:ab)(h:(jf (bif f.C then r else w) f).length<274877906944)(hv:f.B.length<=17179869184):IG w r f=some (jf (bif f.C then r else w) f++[10]):=by
 unfold IG;rw[U6];generalize (bif f.C then r else w)=x at h;simp only[jf,length_append,length_cons]at h;rw[zg (by simp;omega),zg (by simp;omega),zg (by simp;omega),Rj _ hv,ze,zg (by simp;omega),zg (by simp;omega)];simp[jf]
theorem SX(s:ai)(h:(qt s).length<274877906944):IJ s=some (qt s++[10]):=by
 unfold IJ;have h1:=FZ s.D;have h2:=FZ s.E;simp only[qt,length_append,length_cons,length_nil,h1,h2]at h;rw[zg (by simp;omega),zg (by simp;omega),zg (by simp;omega),zg (by simp;omega),C4,ze,zg (by simp;omega),zg (by simp;omega),C4,ze,zg (by simp;omega),zg (by simp;omega)];simp[qt]
structure BW(c:ae):Prop where
 fd:c.i.B.length<=17179869184
 sv:c.z.Value.length<=17179869184
def Er(t:dy):dy×Int:=bif decide (4194304<(t.length:Int))then([],4)else(t,0)
theorem v7(t:dy):H4 t=some (Er t):=by unfold H4 Er;exact iA _ _ _
theorem mM(l:List ae)(hs:∀c∈l,BW c)(ht:(gg l).length<=137438953472) :
  CJ l=call (D1 l) fun e=>bif !decide (e=0)then some ([],e)else some (Er (gg l)):=by
 unfold CJ
 congr 1
 funext e
 congr 1
 simp only[dH];refine(KY (fun i r (o:dy)=>o.length+(gg r).length<=137438953472/\∀c∈r,BW c) (fun i r o=>some (Er (o++gg r))) (fun i o h=>?_) (fun i c r o nx h hnx=>?_) l 0 [] ⟨by simpa using ht,hs⟩).trans ?_
 .simp only[tA,ze,v7,show gg []=[]from rfl,append_nil]
 .obtain⟨h,hs⟩:=h
  have hc:=hs c (mem_cons_self ..)
  have hr:∀d∈r,BW d:=fun d hd=>hs d (mem_cons_of_mem _ hd)
  rw[Gy]at h|-;unfold iN at h|-;simp only[length_append,length_cons,length_nil]at h;cases h1:decide (c.u=1)
  .rw[h1]at h
   simp only[cond_false]at h|-;cases h2:decide (c.u=2)
   .rw[h2]at h
    simp only[cond_false]at h|-;cases h3:decide (c.u=3)
    .rw[h3]at h
     simp only[cond_false]at h|-;cases h4:decide (c.u=4)
     .rw[h4]at h
      simp only[cond_false]at h|-;cases h5:decide (c.u=5)
      .rw[h5]at h
       simp only[cond_false,length_append,length_cons,length_nil]at h|-;rw[zg (by simp;omega),zg (by simp;omega),Ap _ _ (by simp;omega),ze,hnx _ ⟨by simp;omega,hr⟩];simp
      .rw[h5]at h
       simp only[cond_true]at h|-;rw[SX _ (by omega),ze,Ap _ _ (by simp;omega),ze,hnx _ ⟨by simp;omega,hr⟩];simp
     .rw[h4]at h
      simp only[cond_true,length_append,length_cons,length_nil]at h|-;rw[zg (by simp;omega),zg (by simp;omega),Ap _ _ (by simp;omega),ze,hnx _ ⟨by simp;omega,hr⟩];simp
    .rw[h3]at h
     simp only[cond_true]at h|-;rw[SY _ (by omega) hc.sv,ze,Ap _ _ (by simp;omega),ze,hnx _ ⟨by simp;omega,hr⟩];simp
   .rw[h2]at h
    simp only[cond_true,length_append,length_cons,length_nil]at h|-;rw[zg (by simp;omega),zg (by simp;omega),Ap _ _ (by simp;omega),ze,hnx _ ⟨by simp;omega,hr⟩];simp
  .rw[h1]at h
   simp only[cond_true]at h|-;rw[oG gj mQ _ (by omega) hc.fd,ze,Ap _ _ (by simp;omega),ze,hnx _ ⟨by simp;omega,hr⟩];simp
 .rfl
def i7(w:dy):Int:=bif decide (w=gj)||decide (w=mQ)then 1 else bif decide (w=uV)then 2 else bif decide (w=gU)then 3 else bif decide (w=uU)then 4 else bif decide (w=uY)then 5 else bif decide (w=uM)then 6 else 0
theorem Bg(w:dy):IW w=some (i7 w):=by
 unfold IW i7;simp only[dH];cases decide (w=gj)
 .cases decide (w=mQ)
  .cases decide (w=uV)
   .cases decide (w=gU)
    .cases decide (w=uU)
     .cases decide (w=uY)
      .cases decide (w=uM) <;> rfl
      .rfl
     .rfl
    .rfl
   .rfl
  .rfl
 .rfl
def jh(l:dy):ae:=⟨i7 (fm l).1.H,(fm l).1.J,(fm l).1.K,(fm l).1.I⟩
def nT(l:dy):Bool:=(fm l).2&&!decide (i7 (fm l).1.H=0)
def pQ(l:dy):Option ae:=bif nT l then some (jh l)else none
theorem qM(x:al)(o:List ae)(h:o.length<274877906944):Hb x o=some (!decide (i7 x.H=0),o++[⟨i7 x.H,x.J,x.K,x.I⟩]):=by
 unfold Hb;rw[Bg,ze,zg (by simp;omega)]
theorem we(l:dy)(h:fM l=false):fU l=mP l:=by
 unfold fU fM at *
 by_cases hm:(32:UInt8)∈mP l
 .rw[(rv hm).1]at h;cases h
 .rw[yT hm]
def mV:Nat->List ae->List dy->Nat ⊕ List ae
 |_,o,[]=>.inr o
 |n,o,[x]=>bif decide (x=[])then .inr o else .inl n
 |n,o,x::y::r=>match pQ x with
  |none=>.inl n
  |some c=>mV (n+1) (o++[c]) (y::r)
theorem Og(n:Nat)(o:List ae)(x:dy)(r:List dy)(hr:r≠[]):mV n o (x::r)=match pQ x with
  |none=>.inl n
  |some c=>mV (n+1) (o++[c]) r:=by
 cases r with
 |nil=>exact absurd rfl hr
 |cons y r=>simp only[mV] <;> (cases pQ x <;> rfl)
theorem LR{l:dy}{c:ae}(h:pQ l=some c):nT l=true/\c=jh l:=by
 unfold pQ at h;cases ho:nT l
 .rw[ho]at h;cases h
 .rw[ho]at h;exact⟨rfl,(Option.some.inj h).symm⟩
theorem qu{l:dy}(h:pQ l=none):nT l=false:=by
 unfold pQ at h;cases ho:nT l
 .rfl
 .rw[ho]at h;cases h
def CX(p:Nat ⊕ List ae)(z:Option (Int×List ae)):Prop:=match p with
 |.inl j=>∃q,z=some ((j:Int),q)
 |.inr o=>z=some (-1,o)
theorem mv(text:dy)(ht:text.length<=17179869184):CX (mV 0 [] (zR 10 text)) (GN text []):=by
 unfold GN;obtain⟨N,hN⟩:∃N,eV=N:=⟨_,rfl⟩;have hN2:1099511627776<=N:=hN ▸ rt;rw[hN];clear hN;simp only[dH]
 have key:∀(k:Nat) (N:Nat) (t:dy) (n:Nat) (o:List ae),t.length<N->t.length<=k->n+t.length<=text.length->o.length<=n ->
   CX (mV n o (zR 10 t)) (loopN N (fun s nx_67 k_66 =>
  match s with
  |(text_60,n_61,o1_62) =>
   bif !decide (text_60=[])then
    call (Cs text_60 ([10]:dy)) fun r_68 =>
    call (GB r_68.1) fun r_69 =>
    callG (!((!r_68.2.2)||(!r_69.2))) (Hb r_69.1 o1_62) (false,o1_62) fun r_70 =>
    bif (((!r_68.2.2)||(!r_69.2))||(!r_70.1))then
     some (n_61,r_70.2)
    else
    nx_67 (r_68.2.1,IntKind.i64.wrap (n_61+1),r_70.2)
   else
   k_66 (text_60,n_61,o1_62)) (t,(n:Int),o) (fun s=>match s with
  |(text_60,n_61,o1_62)=>some (-1,o1_62))):=by
  intro k
  induction k with
  |zero =>
   intro N t n o hN hk hn ho;obtain rfl:t=[]:=length_eq_zero_iff.1 (by omega)
   cases N with
   |zero=>simp at hN
   |succ N =>
    unfold loopN;exact rfl
  |succ k ih =>
   intro N t n o hN hk hn ho
   cases N with
   |zero=>simp at hN
   |succ N =>
    unfold loopN
    cases t with
    |nil=>exact rfl
    |cons c t =>
     generalize ht':c::t=t0 at *
     have hne:t0≠[]:=by rw[<-ht'];simp
     dsimp +instances only;rw[decide_eq_false hne];simp only[Bool.not_false,cond_true];have h1:=Av 10 t0;rw[rc t0 10 (by omega),ze,nJ _ (by omega),ze,DO,qM _ _ (by omega),iT];cases hc:(dN 10 t0).2.2
     .simp only[Bool.not_false,Bool.true_or,Bool.not_true,cond_true,Bool.false_eq_true,if_false]
      rw[show mV n o [t0]=.inl n by simp only[mV,decide_eq_false hne,cond_false]];exact⟨_,rfl⟩
     .have h3:=h1.2.2 hc
      simp only[Bool.not_true,Bool.false_or,if_true];rw[Og _ _ _ _ (LQ 10 _)];generalize hl0:(dN 10 t0).1=l at *
      cases hs:pQ l with
      |none =>
       have hok:=qu hs;unfold nT at hok;cases hr:(fm l).2
       .exact⟨_,rfl⟩
       .rw[hr,Bool.true_and]at hok
        simp only[Bool.not_true,Bool.not_false,cond_true,hok,Bool.or_true];exact⟨_,rfl⟩
      |some p =>
       obtain⟨hok,rfl⟩:=LR hs;have hok':=hok;unfold nT at hok';simp only[Bool.and_eq_true]at hok';simp only[hok'.1,Bool.not_true,Bool.not_false,cond_true,hok'.2,Bool.or_self,cond_false];rw[fN n (by omega)];exact ih N _ (n+1) _ (by omega) (by omega) (by omega) (by simp;omega)
 exact key text.length N text 0 [] (by omega) (Nat.le_refl _) (by omega) (Nat.le_refl _)
theorem tx{k:dy}{p:List dy}{s:ai}(h:gH k p=some s):∃x∈p,s.a=x:=vR h
theorem xP(l:dy)(hl:l.length<=17179869184):gZ (jh l):=by
 have hk:=kM l
 have hv:∀x∈zR 32 (zcc l),x.length<=17179869184:=fun x hx=>by
  have:=IP hx;omega
 have key:(fm l).1.J.a.length<=17179869184/\(fm l).1.K.k.length<=17179869184/\(fm l).1.I.a.length<=17179869184:=by
  unfold fm;dsimp only;generalize hs3:gH (fU l) (zR 32 (zcc l))=s3
  have hsp:∀s,s3=some s->s.a.length<=17179869184:=fun s e=>by
   rw[e]at hs3;obtain⟨x,hx,e⟩:=tx hs3
   rw[e];exact hv x hx
  generalize jP l=w
  have hkk:(fU l).length<=17179869184:=by omega
  generalize fU l=k at *;generalize fM l=two;generalize jr (zcc l)=u
  have h0:([]:dy).length<=17179869184:=by simp
  clear hs3;cases (!(dN 32 l).2.2||decide (k=[]))
  rotate_left
  .exact⟨h0,h0,h0⟩
  simp only[cond_false]
  cases decide (w=m8)||decide (w=gU)
  rotate_left
  .exact⟨h0,hkk,h0⟩
  simp only[cond_false]
  cases ((decide (w=m7)||decide (w=qh))||decide (w=gj))||decide (w=mQ)
  rotate_left
  .exact⟨hkk,h0,h0⟩
  simp only[cond_false];cases decide (w=uY)
  rotate_left
  .simp only[cond_true]
   cases two
   .exact⟨h0,h0,h0⟩
   .cases s3 with
    |none=>exact⟨h0,h0,h0⟩
    |some s=>exact⟨h0,h0,hsp s rfl⟩
  simp only[cond_false];cases decide (w=uV)
  rotate_left
  .exact⟨hkk,h0,h0⟩
  simp only[cond_false];cases decide (w=uU)
  rotate_left
  .exact⟨h0,hkk,h0⟩
  simp only[cond_false];cases decide (w=uM)
  rotate_left
  .exact⟨h0,h0,h0⟩
  exact⟨h0,h0,h0⟩
 exact⟨key.1,key.2.1,key.2.2⟩
theorem nN:∀(L:List dy) (n:Nat) (o o':List ae),(∀x∈L,x.length<=17179869184)->(∀c∈o,gZ c)->mV n o L=.inr o'->∀c∈o',gZ c
 |[],n,o,o',hL,ho,h=>by
  simp only[mV]at h;cases h;exact ho
 |[x],n,o,o',hL,ho,h=>by
  simp only[mV]at h;cases hx:decide (x=[])
  .rw[hx]at h;cases h
  .rw[hx]at h
   cases h;exact ho
 |x::y::r,n,o,o',hL,ho,h=>by
  rw[Og _ _ _ _ (by simp)]at h
  cases hs:pQ x with
  |none=>rw[hs]at h;cases h
  |some c =>
   rw[hs]at h;obtain⟨hok,rfl⟩:=LR hs;refine nN (y::r) (n+1) _ o' (fun z hz=>hL z (mem_cons_of_mem _ hz)) (fun d hd=>?_) h
   rcases mem_append.1 hd with hd|hd
   .exact ho d hd
   .rw[mem_singleton.1 hd]
    exact xP x (hL x (mem_cons_self ..))
def iY(text:dy):List ae×Int×Int:=match mV 0 [] (zR 10 text)with
 |.inl j=>([],(j:Int),8)
 |.inr o=>bif !decide (eD o=0)then([],0,eD o)else(o,0,0)
theorem wu(text:dy)(ht:text.length<=4194304){o:List ae}(h:mV 0 [] (zR 10 text)=.inr o):∀c∈o,gZ c :=
 nN _ 0 [] o (fun x hx=>by have:=IP hx;omega) (fun c hc=>by cases hc) h
theorem TA(text:dy)(ht:text.length<=4194304):IY text=some (iY text):=by
 unfold IY iY;rw[decide_eq_false (by omega),cond_false];have h:=mv text (by omega)
 cases hp:mV 0 [] (zR 10 text)with
 |inl j =>
  rw[hp]at h;obtain⟨q,h⟩:=h;rw[h,ze];simp only;rw[decide_eq_true (by omega)];rfl
 |inr o =>
  rw[hp]at h;rw[show GN text []=some (-1,o)from h,ze];simp only;rw[show decide ((0:Int)<=-1)=false from rfl,cond_false,Q5 o (wu text ht hp),ze]
  cases decide (eD o=0) <;> rfl
theorem kC{c b:UInt8}:∀{s:dy},b∈s->b=c∨∃q∈zR c s,b∈q
 |[],h=>by cases h
 |x::s,h=>by
  simp only[zR]
  rcases mem_cons.1 h with rfl|h
  .by_cases hb:b=c
   .exact .inl hb
   .right
    rw[if_neg hb];split
    .exact⟨[b],by simp,by simp⟩
    .exact⟨_,mem_cons_self ..,by simp⟩
  .rcases kC (c:=c) h with h|⟨q,hq,hbq⟩
   .exact .inl h
   .right
    split
    .exact⟨q,mem_cons_of_mem _ hq,hbq⟩
    .split
     .rename_i e;rw[e]at hq;cases hq
     .rename_i a t e
      rw[e]at hq
      rcases mem_cons.1 hq with rfl|hq
      .exact⟨_,mem_cons_self ..,mem_cons_of_mem _ hbq⟩
      .exact⟨q,mem_cons_of_mem _ hq,hbq⟩
theorem yI{p:dy}(h:eH p=true){b:UInt8}(hb:yC b=false)(h47:b≠47):b∉p:=by
 intro hm;unfold eH at h;simp only[Bool.and_eq_true,all_eq_true]at h
 rcases kC (c:=47) hm with h'|⟨q,hq,hbq⟩
 .exact h47 h'
 .have:=h.1 q hq
  unfold vm at this;simp only[Bool.and_eq_true,all_eq_true]at this;have:=this.1.1.1 b hbq
  rw[hb]at this;cases this
theorem Ht{p:dy}(h:eH p=true):p≠[]:=by
 rintro rfl;simp[eH,zR,vm]at h
theorem Hx{p:dy}(h:eS p=true){b:UInt8}(hb:p5 b=false):b∉p:=by
 intro hm;unfold eS at h;simp only[Bool.and_eq_true,all_eq_true]at h;have:=h.1.1 b hm
 rw[hb]at this;cases this
theorem rR{p:dy}(h:eS p=true):p≠[]:=by
 rintro rfl;simp[eS]at h
theorem xm(x:UInt8):(10:UInt8)∉pZ x:=by
 have:∀x:UInt8,(pZ x).contains 10=false:=rC (by decide +kernel);have:=this x
 simpa using this
theorem Oi(t:dy):(10:UInt8)∉iO t:=by
 unfold iO body;simp only[mem_cons,mem_append,mem_flatMap,not_mem_nil,or_false,not_or,not_exists,not_and];exact⟨by decide,fun x _=>xm x,by decide⟩
theorem N7(t:dy):jr (iO t)=(t,0):=by
 have hq:B4 (iO t)=true:=by
  unfold B4 iO
  have h2:(34::(body t++[34])).length=(body t).length+2:=by simp
  rw[h2];simp only[getD_cons_zero];rw[show(body t).length+2-1=(body t).length+1 by omega,getD_cons_succ,getD_eq_getElem?_getD,getElem?_append_right (Nat.le_refl _)];rw[show decide ((((body t).length+2:Nat):Int)<2)=false by simp only[decide_eq_false_iff_not];omega];simp
 have hm:mid (iO t)=body t:=by
  unfold mid iO;rw[show(34::(body t++[34])).length-2=(body t).length by simp];simp
 unfold jr
 rw[hq,hm,qk];rfl
theorem qI(w P Q:dy)(h1:(32:UInt8)∉w)(h2:(32:UInt8)∉P):jP (w++32::(P++32::Q))=w/\fU (w++32::(P++32::Q))=P/\zcc (w++32::(P++32::Q))=Q/\fM (w++32::(P++32::Q))=true/\(dN 32 (w++32::(P++32::Q))).2.2=true:=by
 have a:=LA (b:=P++32::Q) h1;have b:=LA (b:=Q) h2;unfold jP fU zcc fM mP;rw[a];simp only[b];exact⟨trivial,trivial,trivial,trivial,trivial⟩
theorem qJ(w P:dy)(h1:(32:UInt8)∉w)(h2:(32:UInt8)∉P):jP (w++32::P)=w/\fU (w++32::P)=P/\zcc (w++32::P)=[]/\fM (w++32::P)=false/\(dN 32 (w++32::P)).2.2=true:=by
 have a:=LA (b:=P) h1;have b:=yT h2;unfold jP fU zcc fM mP;rw[a];simp only[b];exact⟨trivial,trivial,trivial,trivial,trivial⟩
theorem kz{p:dy}(h:(bif !eH p then(5:Int)else 0)=0):eH p=true:=by
 cases hp:eH p
 .rw[hp]at h;simp at h
 .rfl
theorem mF(b:Bool)(x:UInt8)(h:x≠48)(h':x≠49):x∉jK b:=by
 cases b <;> simp[jK,h,h']
theorem ke(P:dy)(a b:Bool)(h:(32:UInt8)∉P):zR 32 (P++32::(jK a++32::jK b))=[P,jK a,jK b]:=by
 rw[DN h,DN (mF a 32 (by decide) (by decide)),GK (mF b 32 (by decide) (by decide))]
theorem Fx(b:Bool):gY (jK b)=true:=by cases b <;> rfl
theorem xY(b:Bool):decide (jK b=([49]:dy))=b:=by cases b <;> rfl
theorem NV(c:ae)(h:eCh c=0):pQ (iN c)=some c/\(10:UInt8)∉iN c:=by
 obtain⟨hk,hn,hc⟩:=F1 h;unfold uR at hk;have p10:yC 10=false:=rfl;have p32:yC 32=false:=rfl;have n10:p5 10=false:=rfl;have n32:p5 32=false:=rfl
 have eu:∀l,nT l=true->jh l=c->pQ l=some c:=fun l h1 h2=>by unfold pQ;rw[h1,h2];rfl
 obtain⟨K,F,S,V⟩:=c;simp only at hk
 rcases mc hk with e|e|e|e|e|e
 all_goals subst e
 ·-- put
  unfold ju at hn;simp only[decide_true,cond_true]at hn;unfold gc at hn;cases hp:eH F.a
  .rw[hp]at hn;simp at hn
  have hP:=yI hp p32 (by decide);have h10:=yI hp p10 (by decide);have hne:=Ht hp
  have hc':S=eI/\V=eC:=by
   unfold mO at hc;simp only[decide_true,cond_true]at hc
   injection hc with _ _ h3 h4
   exact⟨h3,h4⟩
  obtain⟨rfl,rfl⟩:=hc';obtain⟨P,D,R⟩:=F;simp only at hP h10 hne
  have key:∀w,(w=gj∨w=mQ)->nT (w++32::(P++32::iO D))=true/\jh (w++32::(P++32::iO D))=⟨1,⟨P,D,decide (w=mQ)⟩,eI,eC⟩:=by
   rintro w hw
   have h32:(32:UInt8)∉w:=by rcases hw with rfl|rfl <;> decide
   obtain⟨a1,a2,a3,a4,a5⟩:=qI w P (iO D) h32 hP;unfold nT jh fm;simp only[a1,a2,a3,a4,a5,N7,decide_eq_false hne]
   rcases hw with rfl|rfl <;> exact⟨rfl,rfl⟩
  have hl:iN ⟨1,⟨P,D,R⟩,eI,eC⟩=(bif R then mQ else gj)++32::(P++32::iO D):=rfl;rw[hl];cases R
  .refine⟨eu _ (key gj (.inl rfl)).1 (key gj (.inl rfl)).2,?_⟩
   simp only[cond_false,mem_append,mem_cons,not_or];exact⟨by decide,by decide,h10,by decide,Oi D⟩
  .refine⟨eu _ (key mQ (.inr rfl)).1 (key mQ (.inr rfl)).2,?_⟩
   simp only[cond_true,mem_append,mem_cons,not_or];exact⟨by decide,by decide,h10,by decide,Oi D⟩
 ·-- remove
  have hp:=kz (p:=F.a) hn;have hP:=yI hp p32 (by decide);have h10:=yI hp p10 (by decide);have hne:=Ht hp
  have hc':F=⟨F.a,[],false⟩/\S=eI/\V=eC:=by
   unfold mO at hc;simp only[show decide ((2:Int)=1)=false from rfl,decide_true,cond_true,cond_false]at hc
   injection hc with _ h2 h3 h4
   exact⟨h2,h3,h4⟩
  obtain⟨hF,rfl,rfl⟩:=hc';obtain⟨P,D,R⟩:=F;simp only at hP h10 hne hF
  injection hF with _ h2 h3
  subst h2;subst h3
  have hl:iN ⟨2,⟨P,[],false⟩,eI,eC⟩=uV++32::P:=rfl;rw[hl];obtain⟨a1,a2,a3,a4,a5⟩:=qJ uV P (by decide) hP;refine⟨eu _ ?_ ?_,?_⟩
  .unfold nT fm
   simp only[a1,a2,a3,a4,a5,decide_eq_false hne];rfl
  .unfold jh fm
   simp only[a1,a2,a3,a4,a5,decide_eq_false hne];rfl
  .simp only[mem_append,mem_cons,not_or]
   exact⟨by decide,by decide,h10⟩
 ·-- set
  unfold ju at hn;simp only[show decide ((3:Int)=1)=false from rfl,show decide ((3:Int)=2)=false from rfl,decide_true,cond_true,cond_false]at hn;unfold js at hn;cases hp:eH S.k
  .rw[hp]at hn;simp at hn
  have hP:=yI hp p32 (by decide);have h10:=yI hp p10 (by decide);have hne:=Ht hp
  have hc':F=eE/\V=eC:=by
   unfold mO at hc;simp only[show decide ((3:Int)=1)=false from rfl,show decide ((3:Int)=2)=false from rfl,decide_true,cond_true,cond_false]at hc
   injection hc with _ h2 h3 h4
   exact⟨h2,h4⟩
  obtain⟨rfl,rfl⟩:=hc';obtain⟨P,D⟩:=S;simp only at hP h10 hne;have hl:iN ⟨3,eE,⟨P,D⟩,eC⟩=gU++32::(P++32::iO D):=rfl;rw[hl];obtain⟨a1,a2,a3,a4,a5⟩:=qI gU P (iO D) (by decide) hP;refine⟨eu _ ?_ ?_,?_⟩
  .unfold nT fm
   simp only[a1,a2,a3,a4,a5,N7,decide_eq_false hne];rfl
  .unfold jh fm
   simp only[a1,a2,a3,a4,a5,N7,decide_eq_false hne];rfl
  .simp only[mem_append,mem_cons,not_or]
   exact⟨by decide,by decide,h10,by decide,Oi D⟩
 ·-- unset
  have hp:=kz (p:=S.k) hn;have hP:=yI hp p32 (by decide);have h10:=yI hp p10 (by decide);have hne:=Ht hp
  have hc':F=eE/\S=⟨S.k,[]⟩/\V=eC:=by
   unfold mO at hc;simp only[show decide ((4:Int)=1)=false from rfl,show decide ((4:Int)=2)=false from rfl,show decide ((4:Int)=3)=false from rfl,decide_true,cond_true,cond_false]at hc
   injection hc with _ h2 h3 h4
   exact⟨h2,h3,h4⟩
  obtain⟨rfl,hS,rfl⟩:=hc';obtain⟨P,D⟩:=S;simp only at hP h10 hne hS
  injection hS with _ h2
  subst h2;have hl:iN ⟨4,eE,⟨P,[]⟩,eC⟩=uU++32::P:=rfl;rw[hl];obtain⟨a1,a2,a3,a4,a5⟩:=qJ uU P (by decide) hP;refine⟨eu _ ?_ ?_,?_⟩
  .unfold nT fm
   simp only[a1,a2,a3,a4,a5,decide_eq_false hne];rfl
  .unfold jh fm
   simp only[a1,a2,a3,a4,a5,decide_eq_false hne];rfl
  .simp only[mem_append,mem_cons,not_or]
   exact⟨by decide,by decide,h10⟩
 ·-- service
  unfold ju at hn;simp only[show decide ((5:Int)=1)=false from rfl,show decide ((5:Int)=2)=false from rfl,show decide ((5:Int)=3)=false from rfl,show decide ((5:Int)=4)=false from rfl,decide_true,cond_true,cond_false]at hn;unfold jL at hn
  have hnp:eS V.w=true/\eH V.a=true:=by
   cases h1:eS V.w <;> cases h2:eH V.a <;> simp[h1,h2]at hn|-
  have hP:=yI hnp.2 p32 (by decide);have h10:=yI hnp.2 p10 (by decide);have hne:=Ht hnp.2;have hN:=Hx hnp.1 n32;have hN10:=Hx hnp.1 n10;have hNne:=rR hnp.1
  have hc':F=eE/\S=eI:=by
   unfold mO at hc;simp only[show decide ((5:Int)=1)=false from rfl,show decide ((5:Int)=2)=false from rfl,show decide ((5:Int)=3)=false from rfl,show decide ((5:Int)=4)=false from rfl,decide_true,cond_true,cond_false]at hc
   injection hc with _ h2 h3 h4
   exact⟨h2,h3⟩
  obtain⟨rfl,rfl⟩:=hc';obtain⟨Nm,P,A,O⟩:=V;simp only at hP h10 hne hN hN10 hNne;have hl:iN ⟨5,eE,eI,⟨Nm,P,A,O⟩⟩=uY++32::(Nm++32::(P++32::(jK A++32::jK O))):=rfl;rw[hl];obtain⟨a1,a2,a3,a4,a5⟩:=qI uY Nm (P++32::(jK A++32::jK O)) (by decide) hN
  have hs:gH Nm [P,jK A,jK O]=some ⟨Nm,P,A,O⟩:=by
   simp only[gH,decide_eq_false hne,Fx,xY];rfl
  refine⟨eu _ ?_ ?_,?_⟩
  .unfold nT fm
   simp only[a1,a2,a3,a4,a5,ke P A O hP,hs,decide_eq_false hNne];rfl
  .unfold jh fm
   simp only[a1,a2,a3,a4,a5,ke P A O hP,hs,decide_eq_false hNne];rfl
  .simp only[mem_append,mem_cons,not_or]
   exact⟨by decide,by decide,hN10,by decide,h10,by decide,mF A 10 (by decide) (by decide),by decide,mF O 10 (by decide) (by decide)⟩
 ·-- drop
  unfold ju at hn;simp only[show decide ((6:Int)=1)=false from rfl,show decide ((6:Int)=2)=false from rfl,show decide ((6:Int)=3)=false from rfl,show decide ((6:Int)=4)=false from rfl,show decide ((6:Int)=5)=false from rfl,cond_false]at hn
  have hp:eS V.w=true:=by
   cases h1:eS V.w
   .rw[h1]at hn;simp at hn
   .rfl
  have hP:=Hx hp n32;have h10:=Hx hp n10;have hne:=rR hp
  have hc':F=eE/\S=eI/\V=⟨V.w,[],false,false⟩:=by
   unfold mO at hc;simp only[show decide ((6:Int)=1)=false from rfl,show decide ((6:Int)=2)=false from rfl,show decide ((6:Int)=3)=false from rfl,show decide ((6:Int)=4)=false from rfl,show decide ((6:Int)=5)=false from rfl,cond_false]at hc
   injection hc with _ h2 h3 h4
   exact⟨h2,h3,h4⟩
  obtain⟨rfl,rfl,hV⟩:=hc';obtain⟨Nm,P,A,O⟩:=V;simp only at hP h10 hne hV
  injection hV with _ h2 h3 h4
  subst h2;subst h3;subst h4
  have hl:iN ⟨6,eE,eI,⟨Nm,[],false,false⟩⟩=uM++32::Nm:=rfl;rw[hl];obtain⟨a1,a2,a3,a4,a5⟩:=qJ uM Nm (by decide) hP;refine⟨eu _ ?_ ?_,?_⟩
  .unfold nT fm
   simp only[a1,a2,a3,a4,a5,decide_eq_false hne];rfl
  .unfold jh fm
   simp only[a1,a2,a3,a4,a5,decide_eq_false hne];rfl
  .simp only[mem_append,mem_cons,not_or]
   exact⟨by decide,by decide,h10⟩
theorem Jg(n:Nat)(h:n<18446744073709551616):IntKind.u64.wrap (n:Int)=n:=by
 unfold IntKind.wrap;simp only[IntKind.bits,IntKind.signed,Bool.false_and,Bool.false_eq_true,if_false];omega
theorem m5(n:Int):∃m:Nat,IntKind.u64.wrap n=m/\m<18446744073709551616:=by
 refine⟨(n % 18446744073709551616).toNat,?_,by omega⟩;unfold IntKind.wrap;simp only[IntKind.bits,IntKind.signed,Bool.false_and,Bool.false_eq_true,if_false];omega
theorem EC(n c:Nat)(k:IntKind)(hc:c<=k.bits):Int.fdiv (n:Int) (2^(yY k (c:Int)))=((n / 2^c:Nat):Int):=by
 have:yY k (c:Int)=c:=by unfold yY;simp;omega
 rw[this,Int.fdiv_eq_ediv_of_nonneg _ (Int.le_of_lt (Int.pow_pos (by decide)))]
 rw[Int.natCast_ediv,Int.natCast_pow];rfl
theorem yf(n c m:Nat)(h:n<18446744073709551616)(hm:m=2^c-1)(hc:c<64):pN .and .u64 (n:Int) (m:Int)=((n % 2^c:Nat):Int):=by
 subst hm;have h1:2^c<=2^63:=Nat.pow_le_pow_right (by decide) (by omega)
 show IntKind.u64.wrap (((BitVec.ofInt 64 (n:Int) &&& BitVec.ofInt 64 ((2^c-1:Nat):Int)).toNat:Nat):Int)=_
 rw[BitVec.toNat_and,BitVec.toNat_ofInt,BitVec.toNat_ofInt]
 have e1:((n:Int) % ((2^64:Nat):Int)).toNat=n:=by omega
 have e2:(((2^c-1:Nat):Int) % ((2^64:Nat):Int)).toNat=2^c-1:=by omega
 rw[e1,e2,Nat.and_two_pow_sub_one_eq_mod];exact Jg _ (Nat.lt_of_le_of_lt (Nat.mod_le _ _) h)
theorem kS{Z S α:Type}(g:S->α->S)(k:S->Option Z):∀(l:List α) (i:Nat) (s:S),forL l i (fun _ c s nx _=>nx (g s c)) s k=k (l.foldl g s)
 |[],_,_=>rfl
 |x::l,i,s=>by
  unfold forL;exact kS g k l (i+1) (g s x)
theorem Sw{α:Type}(n i:Nat)(f:Nat->α)(v:α):((List.range n).map f).set i v=(List.range n).map (fun j=>if j=i then v else f j):=by
 apply ext_getElem
 .simp
 .intro j h1 h2
  simp only[getElem_set,getElem_map,getElem_range]
  by_cases h:i=j
  .subst h;simp
  .rw[if_neg h,if_neg (Ne.symm h)]
theorem tB{α:Type}(l:List α)(f:α->UInt8):Go.Vc.strOf (l.map fun x=>((f x).toNat:Int))=l.map f:=by
 unfold Go.Vc.strOf;simp
def HXs:dy:=[48,49,50,51,52,53,54,55,56,57,97,98,99,100,101,102]
def dg(n:Nat):UInt8:=HXs.getD n 0
def hx:Nat->Nat->dy
 |0,_=>[]
 |k+1,n=>hx k (n / 16)++[dg (n % 16)]
def se(h:Int)(c:UInt8):Int:=IntKind.u64.wrap ((pN .xor .u64 h (IntKind.u64.wrap (c.toNat:Int)))*1099511628211)
def CU(s:dy):Int:=s.foldl se 14695981039346656037
def fY(s:dy):dy:=hx 16 (CU s).toNat
theorem tZ(s:dy):∃n:Nat,CU s=n/\n<18446744073709551616:=by
 have:∀(s:dy) (h:Int),(∃n:Nat,h=n/\n<18446744073709551616)->∃n:Nat,s.foldl se h=n/\n<18446744073709551616:=by
  intro s
  induction s with
  |nil=>exact fun h hh=>hh
  |cons c s ih=>exact fun h _=>ih _ (m5 _)
 exact this s _ ⟨14695981039346656037,rfl,by decide⟩
theorem kO:∀(k n:Nat),(hx k n).length=k
 |0,_=>rfl
 |k+1,n=>by simp[hx,kO k]
theorem Il(s:dy):(fY s).length=16:=kO _ _
theorem Fe{Z:Type}(m:Nat)(h:m<16)(k:Int->Option Z):ig HXs (m:Int) k=k ((dg m).toNat:Int):=by
 rw[Al (by simpa [HXs]using h)];simp only[dg,getD_eq_getElem?_getD,getElem?_eq_getElem (show m<HXs.length by simpa [HXs]using h),Option.getD_some]
theorem PF(n:Nat):(List.range 16).map (fun j=>dg (n / 2^(60-4*j) % 16))=hx 16 n:=by
 simp only[hx,List.range,List.range.loop,map_cons,map_nil,Nat.div_div_eq_div_mul,nil_append,cons_append];simp
theorem Rk(s:dy):Ck s=some (fY s):=by
 obtain⟨n,hn,hlt⟩:=tZ s;unfold Ck;obtain⟨N,hN⟩:∃N,eV=N:=⟨_,rfl⟩;have hF:1099511627776<=N:=hN ▸ rt;rw[hN]
 show forL s 0 (fun _ c h nx _=>nx (se h c)) 14695981039346656037 _=_
 rw[kS]
 show jp _ (fun k_27=>loopN N _ _ _)=_
 rw[show s.foldl se 14695981039346656037=(n:Int)from hn];unfold jp
 let arr:=fun i:Nat=>(List.range 16).map fun j=>if j<i then((dg (n / 2^(60-4*j) % 16)).toNat:Int)else 0
 refine(Cg (fun s=>∃i:Nat,s.1=(i:Int)/\i<=16/\s.2=arr i) (fun s=>16-s.1.toNat) (fun _=>some (fY s)) ?_ N _ ⟨0,rfl,by omega,?_⟩ (by show 16-Int.toNat 0<N;simp;omega)).trans rfl
 .rintro⟨t,o⟩ nx ⟨i,h1,hi,h2⟩ hnx
  obtain rfl:t=i:=h1;obtain rfl:o=arr i:=h2;simp only[length_replicate]
  by_cases h:i<16
  .rw[x8 (decide_eq_true (by omega))]
   have e1:IntKind.i64.wrap (60-IntKind.i64.wrap (4*(i:Int)))=((60-4*i:Nat):Int):=by
    rw[gS (n:=4*(i:Int)) (by omega) (by omega),gS (by omega) (by omega)];omega
   rw[e1,zg (by omega),EC _ _ _ (by simp only[IntKind.bits];omega)];rw[show(15:Int)=((15:Nat):Int)from rfl,yf _ 4 15 (Nat.lt_of_le_of_lt (Nat.div_le_self _ _) hlt) (by decide) (by decide)]
   show ig HXs _ _=_
   rw[Fe _ (Nat.mod_lt _ (by decide)),zg (by simp[arr];omega),fN i (by omega)];refine hnx _ ⟨i+1,rfl,by omega,?_⟩ ?_
   .show List.set (arr i) (Int.toNat (i:Int)) _=_
    rw[Int.toNat_natCast]
    show((List.range 16).map _).set i _=(List.range 16).map _
    rw[Sw];apply map_congr_left;intro j _
    by_cases hj:j=i
    .subst hj;rw[if_pos rfl,if_pos (by omega)]
    .rw[if_neg hj]
     by_cases hj':j<i
     .rw[if_pos hj',if_pos (by omega)]
     .rw[if_neg hj',if_neg (by omega)]
   .show 16-Int.toNat ((i+1:Nat):Int)<16-Int.toNat (i:Int)
    rw[Int.toNat_natCast,Int.toNat_natCast];omega
  .rw[lc (decide_eq_false (by omega))]
   obtain rfl:i=16:=by omega
   show some (Go.Vc.strOf (arr 16))=_
   have:arr 16=(List.range 16).map fun j=>((dg (n / 2^(60-4*j) % 16)).toNat:Int):=by
    apply map_congr_left;intro j hj;rw[if_pos (mem_range.1 hj)]
   rw[this,tB,PF];unfold fY
   rw[hn];rfl
 .show List.replicate 16 (0:Int)=_
  apply ext_getElem
  .simp[arr]
  .intro j h1 h2
   rw[getElem_replicate];simp only[arr,getElem_map,getElem_range];rfl
def hN(n:Nat)(c:UInt8):Nat:=((n ^^^ c.toNat)*1099511628211) % 18446744073709551616
def hF(n:Nat)(s:dy):Nat:=s.foldl hN n
theorem xA:∀m:Fin 16,dg m.val≠32/\dg m.val≠10:=by decide
theorem ov:∀(k n:Nat),∀c∈hx k n,c≠32/\c≠10
 |0,_,c,h=>by cases h
 |k+1,n,c,h=>by
  unfold hx at h
  rcases mem_append.1 h with h|h
  .exact ov k _ c h
  .rw[mem_singleton.1 h];exact xA ⟨n % 16,Nat.mod_lt _ (by decide)⟩
theorem Ew(s:dy):(10:UInt8)∉fY s:=fun h=>(ov _ _ _ h).2 rfl
def atoiN(s:dy):Int:=(Go.Lib.atoi s).getD 0
theorem pm{s:dy}(h:s.length<=18):ia s=atoiN s:=by
 unfold ia atoiN;rw[Go.Lib.atoiAll_short s h]
 cases Go.Lib.atoi s <;> rfl
theorem pn{s:dy}(h:s.length<=18):atoiE s=(Go.Lib.atoi s).isSome:=by
 unfold atoiE;rw[Go.Lib.atoiAll_short s h]
 cases Go.Lib.atoi s <;> rfl
def val(acc:Nat)(l:dy):Nat:=l.foldl (fun n c=>n*10+(c.toNat-48)) acc
theorem HE{c:UInt8}(h:iB c=true):48<=c.toNat/\c.toNat<=57:=by
 unfold iB at h;simp only[Bool.and_eq_true,decide_eq_true_eq]at h;omega
theorem Ov:∀(l:dy) (acc:Nat),l.all iB=true->Go.Lib.decFrom acc l=some (val acc l)
 |[],_,_=>rfl
 |c::l,acc,h=>by
  simp only[all_cons,Bool.and_eq_true]at h;have:=HE h.1;unfold Go.Lib.decFrom Go.Lib.digitVal;rw[if_pos this];exact Ov l _ h.2
theorem uz{w:dy}(h:w.all iB=true)(hne:w≠[]):atoiN w=(val 0 w:Nat):=by
 cases w with
 |nil=>exact absurd rfl hne
 |cons c l =>
  have hc:iB c=true:=by simp only[all_cons,Bool.and_eq_true]at h;exact h.1
  have hr:=HE hc
  have h1:(c == 45)=false:=by
   rw[beq_eq_false_iff_ne];rintro rfl;revert hr;decide
  have h2:(c == 43)=false:=by
   rw[beq_eq_false_iff_ne];rintro rfl;revert hr;decide
  unfold atoiN Go.Lib.atoi Go.Lib.decNat;simp only[h1,h2,Bool.false_eq_true,if_false,isEmpty_cons,Ov _ 0 h,Option.map_some,Option.getD_some]
theorem MR(d:Nat)(h:d<10):(UInt8.ofNat (48+d)).toNat=48+d:=by
 rw[UInt8.toNat_ofNat'];omega
theorem CY(d:Nat)(h:d<10):iB (UInt8.ofNat (48+d))=true:=by
 unfold iB
 rw[MR d h,Bool.and_eq_true,decide_eq_true_eq,decide_eq_true_eq];omega
theorem nb(l:dy)(c:UInt8):val 0 (l++[c])=val 0 l*10+(c.toNat-48):=by unfold val;rw[foldl_append];rfl
structure DD(u:Nat)(l:dy):Prop where
 dig:l.all iB=true
 vl:val 0 l=u
 ne:l≠[]
 hd:u≠0->(l.getD 0 0).toNat≠48
 len:∀k,u<10^(k+1)->l.length<=k+1
theorem dd(u:Nat):DD u (Go.Lib.decDigits u):=by
 induction u using Nat.strongRecOn with
 |ind u ih =>
  unfold Go.Lib.decDigits
  by_cases h:u<10
  .rw[dif_pos h]
   refine⟨by rw[all_cons,CY u h];rfl,by simp only[val,foldl_cons,foldl_nil];rw[MR u h];omega,by simp,fun h0=>?_,fun k _=>by simp⟩
   show(UInt8.ofNat (48+u)).toNat≠48
   rw[MR u h];omega
  .rw[dif_neg h]
   have q:=ih (u / 10) (by omega);have hm:u % 10<10:=Nat.mod_lt _ (by decide);refine⟨by rw[all_append,q.dig,all_cons,CY _ hm];rfl,by rw[nb,q.vl,MR _ hm];omega,by simp,fun _=>?_,fun k hk=>?_⟩
   .have hl:=length_pos_iff.2 q.ne
    rw[getD_eq_getElem?_getD,getElem?_append_left hl,<-getD_eq_getElem?_getD];exact q.hd (by omega)
   .rw[length_append,length_singleton]
    cases k with
    |zero=>simp at hk;omega
    |succ k =>
     rw[Nat.pow_succ]at hk;have:=q.len k (by omega);omega
theorem La{n:Int}(h:0<=n):Go.Lib.itoa n=Go.Lib.decDigits n.toNat:=by
 obtain⟨u,rfl⟩:=Int.eq_ofNat_of_zero_le h
 rw[Go.Lib.itoa_nonneg];simp
theorem Lq{c:UInt8}(h:iB c=true):c≠32/\c≠10/\c≠45/\c≠46:=by
 have:=HE h
 refine⟨?_,?_,?_,?_⟩ <;> (rintro rfl;revert this;decide)
theorem BE{l:dy}(h:l.all iB=true):(32:UInt8)∉l/\(10:UInt8)∉l/\(45:UInt8)∉l/\(46:UInt8)∉l:=by
 have k:=all_eq_true.1 h;exact⟨fun e=>(Lq (k _ e)).1 rfl,fun e=>(Lq (k _ e)).2.1 rfl,fun e=>(Lq (k _ e)).2.2.1 rfl,fun e=>(Lq (k _ e)).2.2.2 rfl⟩
def l7(n:Nat)(s:dy):Bool:=!((decide (s=[])||decide ((n:Int)<(s.length:Int)))||(decide (((s.getD 0 0).toNat:Int)=48)&&!decide (s=[48])))&&s.all iB
theorem pj{s:dy}(h:s.all iB=true)(hne:s≠[])(hl:s.length<=18):ia s=(val 0 s:Nat)/\atoiE s=true:=by
 refine⟨by rw[pm hl,uz h hne],?_⟩;rw[pn hl]
 cases s with
 |nil=>exact absurd rfl hne
 |cons c l =>
  have hc:iB c=true:=by simp only[all_cons,Bool.and_eq_true]at h;exact h.1
  have hr:=HE hc
  have h1:(c == 45)=false:=by
   rw[beq_eq_false_iff_ne];rintro rfl;revert hr;decide
  have h2:(c == 43)=false:=by
   rw[beq_eq_false_iff_ne];rintro rfl;revert hr;decide
  unfold Go.Lib.atoi Go.Lib.decNat;simp only[h1,h2,Bool.false_eq_true,if_false,isEmpty_cons,Ov _ 0 h,Option.map_some,Option.isSome_some]
theorem Ba{u n:Nat}(hu:u<10^(n+1)):l7 (n+1) (Go.Lib.decDigits u)=true:=by
 have q:=dd u;have hl:=q.len n hu;unfold l7;rw[q.dig,decide_eq_false q.ne,decide_eq_false (by omega),Bool.and_true,Bool.false_or,Bool.false_or]
 by_cases h0:u=0
 .subst h0
  rw[show Go.Lib.decDigits 0=[48]by unfold Go.Lib.decDigits;rw[dif_pos (by decide)];rfl];decide
 .rw[decide_eq_false (fun e=>q.hd h0 (by omega))];rfl
theorem Mi(s:dy):Iw s=some (bif l7 9 s then(((val 0 s:Nat):Int),true)else(0,false)):=by
 unfold Iw l7
 by_cases hA:s=[]
 .subst hA;rfl
 have hpos:=length_pos_iff.2 hA;rw[decide_eq_false hA,zg (fun _=>by omega)]
 by_cases hB:(9:Int)<(s.length:Int)
 .rw[decide_eq_true hB,show decide (((9:Nat):Int)<(s.length:Int))=true from decide_eq_true hB];rfl
 rw[decide_eq_false hB,show decide (((9:Nat):Int)<(s.length:Int))=false from decide_eq_false hB];cases hC:(decide (((s.getD 0 0).toNat:Int)=48)&&!decide (s=([48]:dy)))
 .simp only[Bool.or_self,Bool.or_false,cond_false,Bool.not_false,Bool.true_and,dH]
  rw[sY iB (fun i x nx k=>by
   unfold iB
   by_cases h1:((x.toNat:Int)<48)
   .rw[decide_eq_true h1,show decide (48<=(x.toNat:Int))=false from decide_eq_false (by omega)];rfl
   .by_cases h2:(57<(x.toNat:Int))
    .rw[decide_eq_true h2,show decide ((x.toNat:Int)<=57)=false from decide_eq_false (by omega),Bool.or_true,Bool.and_false];rfl
    .rw[decide_eq_false h1,decide_eq_false h2,show decide (48<=(x.toNat:Int))=true from decide_eq_true (by omega),show decide ((x.toNat:Int)<=57)=true from decide_eq_true (by omega)];rfl)]
  cases hD:s.all iB
  .rfl
  .obtain⟨e1,e2⟩:=pj hD hA (by omega)
   unfold OI;rw[cond_true,cond_true,ze,e1,e2]
 .rfl
theorem Bl(sep a:dy)(l:List dy)(hsep:sep.length<=1)(hl:l.length<=8000000)(hs:a.length+(l.map List.length).sum<=270000000000):GF (a::l) sep=some (a++(l.map (sep++·)).flatten):=by
 unfold GF;simp only[dH];rw[lc (decide_eq_false (by simp;omega))]
 rcases l with _|⟨b,l⟩
 .rw[x8 (decide_eq_true (show(([a]:List dy).length:Int)=1 from rfl))]
  show eB [a] ((0:Nat):Int) _=_
  rw[ft (by simp)];simp
 rw[lc (decide_eq_false (by simp;omega))];simp only[length_cons]at hl
 have sumloop:∀(q:List dy) (i:Nat) (n:Nat) (k:Int->Option dy),n+(q.map List.length).sum<=274877906000 ->
   forL q i (fun i_62 s_64 n_57 nx_61 k_60=>bif decide ((IntKind.i64.wrap (9223372036854775807-n_57))<(s_64.length:Int))then none else nx_61 (IntKind.i64.wrap (n_57+(s_64.length:Int)))) (n:Int) k=k ((n+(q.map List.length).sum:Nat):Int):=by
  intro q
  induction q with
  |nil=>intro i n k h;simp[forL]
  |cons x q ih =>
   intro i n k h;simp only[map_cons,sum_cons]at h;unfold forL;dsimp only;rw[gS (n:=9223372036854775807-(n:Int)) (by omega) (by omega),lc (decide_eq_false (by omega)),show(n:Int)+(x.length:Int)=((n+x.length:Nat):Int)by omega,rz _ (by omega)];rw[ih (i+1) (n+x.length) k (by omega)];simp only[map_cons,sum_cons,Nat.add_assoc]
 have wl:∀(q:List dy) (i:Nat) (o:dy),q.length<=8000000->o.length+(q.map List.length).sum+q.length<=274877906944 ->
   forL q i (fun i_52 s_54 o1_46 nx_51 k_50 =>
    call (zi sep o1_46) fun r_55 =>
    call (zi s_54 r_55.2) fun r_56 =>
    nx_51 r_56.2) o (fun o1_46=>call (CF o1_46) fun r_39=>some r_39)=some (o++(q.map (sep++·)).flatten):=by
  intro q
  induction q with
  |nil=>intro i o _ h;simp[forL,CF,ze]
  |cons x q ih =>
   intro i o h1 h;simp only[map_cons,sum_cons,length_cons]at h h1;unfold forL;dsimp only;rw[Ap _ _ (by simp;omega),ze];dsimp only;rw[Ap _ _ (by simp;omega),ze];dsimp only;rw[ih _ _ (by omega) (by simp;omega)];simp
 simp only[map_cons,sum_cons]at hs
 have eu:∀n0:Nat,n0<=8000001->forL (a::b::l) 0 (fun i_62 s_64 n_57 nx_61 k_60=>bif decide ((IntKind.i64.wrap (9223372036854775807-n_57))<(s_64.length:Int))then none else nx_61 (IntKind.i64.wrap (n_57+(s_64.length:Int)))) (n0:Int) (fun n_57=>call (Mu n_57 []) fun r_17 =>
   eB (a::b::l) 0 fun s_18 =>
   call (zi s_18 []) fun r_19 =>
   dA (0<=1/\1<=((a::b::l).length:Int)) <|
   forL (List.drop 1 (a::b::l)) 0 (fun i_52 s_54 o1_46 nx_51 k_50 =>
    call (zi sep o1_46) fun r_55 =>
    call (zi s_54 r_55.2) fun r_56 =>
    nx_51 r_56.2) r_19.2 (fun o1_46=>call (CF o1_46) fun r_39=>some r_39))=some (a++((b::l).map (sep++·)).flatten):=fun n0 h0=>by
  rw[sumloop (a::b::l) 0 n0 _ (by simp;omega)];unfold Mu;rw[zg (by simp;omega),ze]
  show eB (a::b::l) ((0:Nat):Int) _=_
  rw[ft (by simp),getElem_cons_zero,Ap _ _ (by simp;omega),ze,zg (by simp;omega)];dsimp only;rw[drop_succ_cons,drop_zero,wl (b::l) 0 _ (by simp;omega) (by simp;omega)];simp
 rcases sep with _|⟨c,_|⟨d,sep⟩⟩
 .rw[lc (by decide)]
  exact eu 0 (by omega)
 .rw[x8 (decide_eq_true (by simp))]
  have e1:IntKind.i64.wrap (((a::b::l).length:Int)-1)=((l.length+1:Nat):Int):=by rw[length_cons,length_cons,gS (by omega) (by omega)];omega
  rw[e1,zg (by omega)]
  have e2:1<IntKind.i64.wrap (Int.tdiv 9223372036854775807 ((l.length+1:Nat):Int)):=by
   have h1:Int.tdiv 9223372036854775807 ((l.length+1:Nat):Int)=((9223372036854775807 / (l.length+1):Nat):Int):=by
    rw[Int.tdiv_eq_ediv_of_nonneg (by decide)];rfl
   have h2:9223372036854775807 / 8000001<=9223372036854775807 / (l.length+1):=Nat.div_le_div_left (by omega) (by omega);have h3:9223372036854775807 / (l.length+1)<=9223372036854775807:=Nat.div_le_self _ _;rw[h1,rz _ h3]
   have:2<=9223372036854775807 / 8000001:=by decide
   omega
  rw[lc (decide_eq_false (by simp only[length_singleton];omega))]
  have e3:IntKind.i64.wrap (0+(IntKind.i64.wrap ((([c]:dy).length:Int)*((l.length+1:Nat):Int))))=((l.length+1:Nat):Int):=by
   rw[show(([c]:dy).length:Int)=1 from rfl,Int.one_mul,rz _ (by omega),Int.zero_add,rz _ (by omega)]
  rw[e3];exact eu (l.length+1) (by omega)
 .simp at hsep
theorem AK:∀(s:dy),s.all iB=true->s≠[]->(s.getD 0 0).toNat≠48->0<val 0 s/\Go.Lib.decDigits (val 0 s)=s:=by
 have key:∀(k:Nat) (s:dy),s.length=k->s.all iB=true->s≠[]->(s.getD 0 0).toNat≠48->0<val 0 s/\Go.Lib.decDigits (val 0 s)=s:=by
  intro k
  induction k with
  |zero=>intro s hk _ hn;exact absurd (length_eq_zero_iff.1 hk) hn
  |succ k ih =>
   intro s hk hd hn h0;obtain⟨t,c,rfl⟩:∃t c,s=t++[c]:=⟨s.dropLast,s.getLast hn,(dropLast_concat_getLast hn).symm⟩;rw[length_append,length_singleton]at hk;rw[all_append,Bool.and_eq_true,all_cons,all_nil,Bool.and_true]at hd;have hc:=HE hd.2;rw[nb]
   by_cases ht:t=[]
   .subst ht
    have h0':c.toNat≠48:=h0;rw[show val 0 ([]:dy)*10+(c.toNat-48)=c.toNat-48 from by simp[val]];refine⟨by omega,?_⟩;unfold Go.Lib.decDigits;rw[dif_pos (by omega),show 48+(c.toNat-48)=c.toNat by omega];simp
   .have hp:=length_pos_iff.2 ht
    rw[getD_eq_getElem?_getD,getElem?_append_left hp,<-getD_eq_getElem?_getD]at h0;obtain⟨h1,h2⟩:=ih t (by omega) hd.1 ht h0;refine⟨by omega,?_⟩;unfold Go.Lib.decDigits;rw[dif_neg (by omega),show(val 0 t*10+(c.toNat-48)) / 10=val 0 t by omega,show(val 0 t*10+(c.toNat-48)) % 10=c.toNat-48 by omega,h2,show 48+(c.toNat-48)=c.toNat by omega];simp
 exact fun s=>key s.length s rfl
theorem wJ{n:Nat}{s:dy}(h:l7 n s=true):s.all iB=true/\s≠[]/\s.length<=n/\Go.Lib.decDigits (val 0 s)=s:=by
 unfold l7 at h;simp only[Bool.and_eq_true,Bool.not_eq_true',Bool.or_eq_false_iff,decide_eq_false_iff_not]at h;obtain⟨⟨⟨h1,h2⟩,h3⟩,h4⟩:=h;refine⟨h4,h1,by omega,?_⟩
 by_cases h5:s=[48]
 .subst h5
  unfold Go.Lib.decDigits;rw[dif_pos (by decide)];rfl
 .rw[decide_eq_false h5,Bool.not_false,Bool.and_true,decide_eq_false_iff_not]at h3
  exact(AK s h4 h1 (by omega)).2
theorem Oe{n:Nat}(h:n<=4194304):(Go.Lib.itoa (n:Int)).length<=20:=by
 rw[La (by omega)];exact Nat.le_trans ((dd _).len 7 (by simp;omega)) (by decide)
def wJou:dy:=[106,111,117,114,110,97,108]
def ic:dy:=[99,104,97,110,103,101,115]
def fZ:dy:=[111,108,100]
def ie:dy:=[115,117,109]
def pO(w:dy)(l:List ae):dy:=w++32::(Go.Lib.itoa (l.length:Int)++10::gg l)
def gu(j:aj):dy:=wJou++32::(j.F++10::(pO ic j.A++pO fZ j.G))
def nv(b:dy):dy:=b++(ie++32::(fY b++[10]))
def fh(j:aj):dy:=nv (gu j)
def eJ(j:aj):Int:=bif decide (eD j.A=0)then eD j.G else eD j.A
def pJ(j:aj):dy×Int :=
 bif !eS j.F then([],5)else bif !decide (eJ j=0)then([],eJ j)else
 bif decide (65536<((fh j).length:Int))then([],4)else(fh j,0)
structure uD(l:List ae):Prop where
 c:∀c∈l,gZ c
 d:∀c∈l,BW c
 p:(gg l).length<=4194304
 n:l.length<=4194304
theorem NF(n:Nat)(h:n<=4194304):strconv_Itoa (n:Int)=some (Go.Lib.itoa (n:Int)):=by
 unfold strconv_Itoa;exact zg (by omega) _
theorem Le{s:dy}(h:eS s=true):s.length<=40:=by
 unfold eS at h;simp only[Bool.and_eq_true,decide_eq_true_eq]at h;omega
def FD(c:UInt8):List dy->List dy
 |[]=>[]
 |[x]=>[x]
 |x::y::r=>(x++[c])::FD c (y::r)
theorem pA(c:UInt8)(x:dy){l:List dy}(h:l≠[]):FD c (x::l)=(x++[c])::FD c l:=by
 cases l with
 |nil=>exact absurd rfl h
 |cons y r=>rfl
theorem Sy(s:dy)(c:UInt8)(hs:s.length<=17179869184):GU s [c]=some (FD c (zR c s)):=by
 have hcl:=count_le_length (a:=c) (l:=s)
 have key:CB s [c] 1 (-1)=some (FD c (zR c s)):=by
  unfold CB;obtain⟨N,hN⟩:∃N,eV=N:=⟨_,rfl⟩;have hN2:1099511627776<=N:=hN ▸ rt;rw[hN];clear hN
  have hmin:min ((s.count c+1:Nat):Int) ((s.length+1:Nat):Int)=((s.count c+1:Nat):Int):=by omega
  simp only[dH,oU,ze,show decide ((-1:Int)=0)=false from rfl,show decide ((-1:Int)<0)=true from rfl,show decide (([c]:dy)=[])=false from rfl,cond_true,cond_false];simp only[fN (s.count c) (by omega),fN s.length (by omega),hmin];rw[zg (by omega)]
  have hw:IntKind.i64.wrap (((s.count c+1:Nat):Int)-1)=((s.count c:Nat):Int):=by rw[gS (by omega) (by omega)];omega
  simp only[hw,Int.toNat_natCast]
  refine(Cg (S:=dy×Int×List dy) (fun st=>∃i:Nat,st.2.1=i/\st.2.2.length=s.count c+1/\st.1.length<=s.length/\i+st.1.count c=s.count c) (fun st=>s.count c-st.2.1.toNat)
   (fun st=>some (st.2.2.take st.2.1.toNat++FD c (zR c st.1))) ?_ N _ ⟨0,rfl,by simp,Nat.le_refl _,by simp⟩ (by simp only;omega)).trans ?_
  .rintro⟨t,i',o⟩ nx ⟨i,rfl,ho,ht,hc⟩ hnx
   simp only at ho ht hc hnx|-;simp only[oq,ze]
   by_cases hi:i<s.count c
   .have hmem:c∈t:=by rw[<-count_pos_iff];omega
    obtain⟨h1,h2,h3⟩:=rv hmem;have hl:=(Av c t).2.2 h1;obtain⟨t1,t2⟩:=Oc hmem;rw[decide_eq_true (by omega),cond_true,Nz hmem,decide_eq_false (by omega),cond_false];have hw3:IntKind.i64.wrap (((dN c t).1.length:Int)+1)=(((dN c t).1.length+1:Nat):Int):=fN _ (by omega);have hw4:IntKind.i64.wrap (((dN c t).1.length:Int)+(([c]:dy).length:Int))=(((dN c t).1.length+1:Nat):Int):=fN _ (by omega);simp only[hw3,hw4,fN i (by omega),Int.toNat_natCast];rw[zg (by omega),zg (by omega),zg (by omega)];have hdc:=RG hmem
    have t3:t.take ((dN c t).1.length+1)=(dN c t).1++[c]:=by
     have:∀a b:dy,(a++c::b).take (a.length+1)=a++[c]:=by intro a b;simp[take_append];exact take_of_length_le (by omega)
     exact(congrArg (List.take _) h2).trans (this _ _)
    simp only[t3,t2];rw[hnx _ ⟨i+1,rfl,by simpa using ho,by simp only;omega,by simp only;omega⟩ (by simp only[Int.toNat_natCast];omega)];simp only[Int.toNat_natCast];rw[HN o i _ (by omega)]
    congr 1
    rw[show zR c t=(dN c t).1::zR c (dN c t).2.1 by rw[DO,if_pos h1],pA c _ (LQ c _)];simp
   .obtain rfl:i=s.count c:=by omega
    rw[decide_eq_false (by omega),cond_false]
    have hmem:c∉t:=by rw[<-count_pos_iff];omega
    rw[zg (by omega),fN _ (by omega)];simp only[Int.toNat_natCast,length_set];rw[zg (by omega),HN o _ _ (by omega),GK hmem];rfl
  .simp
 unfold GU
 rw[show((([c]:dy).length:Nat):Int)=1 from rfl,key];rfl
def fP(p s:dy):Bool:=decide (s.take p.length=p)
theorem mz(s p:dy):I0 s p=some (bif fP p s then(s.drop p.length,true)else(s,false)):=by
 unfold I0 MH G9 fP
 by_cases h:s.take p.length=p
 .have hl:p.length<=s.length:=by have:=congrArg List.length h;rw[length_take]at this;omega
  rw[zg (by omega),ze,decide_eq_true (show(p.length:Int)<=(s.length:Int)by omega),decide_eq_true h];simp only[Bool.true_and,Bool.not_true,cond_false,cond_true];rw[zg (by omega)];rfl
 .rw[zg (by intro q;have:=of_decide_eq_true q;omega),ze,decide_eq_false h,Bool.and_false]
  rfl
theorem Q7(x:dy)(c:UInt8)(h:x.length<1099511627776):I1 (x++[c]) [c]=some (x,true):=by
 unfold I1 MI MJ
 have hl:(x++[c]).length=x.length+1:=by simp
 have hw:IntKind.i64.wrap (((x++[c]).length:Int)-(([c]:dy).length:Int))=(x.length:Int):=by
  rw[hl,show(([c]:dy).length:Int)=1 from rfl,gS (by omega) (by omega)];omega
 rw[hw,zg (by intro _;omega),ze,decide_eq_true (show((([c]:dy).length:Nat):Int)<=(((x++[c]).length:Nat):Int)by rw[hl];show(1:Int)<=_;omega)];simp only[Int.toNat_natCast,drop_left,decide_true,Bool.true_and,Bool.not_true,cond_false];rw[zg (by omega),take_left];rfl
theorem EJ{p x:dy}(h:(10:UInt8)∉p):fP p (x++[10])=fP p x:=by
 unfold fP
 by_cases hl:p.length<=x.length
 .rw[take_append_of_le_length hl]
 .rw[decide_eq_false,decide_eq_false]
  .intro e
   have:=congrArg List.length e;rw[length_take]at this;omega
  .intro e
   rw[take_of_length_le (by simp;omega)]at e;exact h (e ▸ by simp)
theorem A8{p x:dy}(h:fP p x=true):p.length<=x.length:=by
 have:=congrArg List.length (of_decide_eq_true h);rw[length_take]at this;omega
def nl(x:dy):dy:=x++[10]
theorem oe(w:dy)(l:List dy):zI w l true=some ([],true,l):=rfl
theorem Nj(w:dy)(b:Bool):zI w [] b=some ([],true,[]):=by
 unfold zI;rw[show decide ((([]:List dy).length:Int)=0)=true from rfl,Bool.or_true];rfl
theorem NH(w x:dy)(r:List dy)(hw:(10:UInt8)∉w)(hl:w.length<=100)(hx:x.length<=17179869184) :
  zI w (nl x::r) false=some (bif fP (w++[32]) x then x.drop (w++[32]).length else x,!fP (w++[32]) x,r):=by
 unfold zI
 have h10:(10:UInt8)∉w++[32]:=by simp[hw]
 rw[show(false||decide (((nl x::r).length:Int)=0))=false from by rw[Bool.false_or];exact decide_eq_false (by simp only[length_cons];omega),cond_false];rw[show eB (nl x::r) 0=eB (nl x::r) ((0:Nat):Int)from rfl];rw[ft (by simp)];simp only[getElem_cons_zero];rw[zg (by simp;omega),mz,ze];unfold nl;rw[EJ h10];cases hp:fP (w++[32]) x
 .simp only[cond_false]
  rw[Q7 _ _ (by omega),ze,zg (by simp only[length_cons];omega)];rfl
 .have:=A8 hp
  simp only[cond_true];rw[drop_append_of_le_length this,Q7 _ _ (by simp;omega),ze,zg (by simp only[length_cons];omega)];rfl
def j5:List dy->Option (List ae)
 |[]=>some []
 |x::r=>match pQ x with
  |none=>none
  |some c=>match j5 r with
   |none=>none
   |some l=>some (c::l)
def dI(L:List dy):dy:=(L.map nl).flatten
theorem p7(x:dy)(L:List dy):dI (x::L)=x++10::dI L:=by simp[dI,nl]
theorem NS:∀(L:List dy),(∀x∈L,(10:UInt8)∉x)->zR 10 (dI L)=L++[[]]
 |[],_=>rfl
 |x::L,h=>by
  rw[p7,DN (h x (mem_cons_self ..)),NS L fun y hy=>h y (mem_cons_of_mem _ hy)];rfl
theorem P2:∀(L:List dy) (n:Nat) (o:List ae),match j5 L with
  |some l=>mV n o (L++[[]])=.inr (o++l)
  |none=>∃k,mV n o (L++[[]])=.inl k
 |[],n,o=>by simp[j5,mV]
 |x::L,n,o=>by
  rw[cons_append,Og _ _ _ _ (by simp)];unfold j5
  cases hs:pQ x with
  |none=>exact⟨n,rfl⟩
  |some c =>
   have:=P2 L (n+1) (o++[c])
   revert this
   cases j5 L with
   |none=>exact fun h=>h
   |some l=>intro h;simp only at h|-;rw[h];simp
theorem nP(L:List dy)(h:∀x∈L,(10:UInt8)∉x):match j5 L with
  |some l=>iY (dI L)=bif !decide (eD l=0)then([],0,eD l)else(l,0,0)
  |none=>∃k,iY (dI L)=([],k,8):=by
 have:=P2 L 0 [];unfold iY;rw[NS L h]
 revert this
 cases j5 L with
 |none=>rintro⟨k,e⟩;rw[e];exact⟨_,rfl⟩
 |some l=>intro e;simp only[nil_append]at e|-;rw[e]
theorem c8{b:Bool}{x y:Int}(h:x≠8)(h':y≠8):(bif b then x else y)≠8:=by cases b <;> assumption
theorem uh(c:ae):ju c≠8:=by
 unfold ju gc js jL
 repeat' first|refine c8 ?_ ?_|decide
theorem BC(c:ae):eCh c≠8:=by
 unfold eCh;exact c8 (by decide) (c8 (by decide) (uh c))
theorem oL:∀(l:List ae),eD l≠8
 |[]=>by decide
 |c::l=>by
  unfold eD;cases h:!decide (eCh c=0)
  .exact oL l
  .exact BC c
def nR(w x:dy)(n:Nat):Bool:=fP (w++[32]) x&&(l7 9 (x.drop (w++[32]).length)&&decide (val 0 (x.drop (w++[32]).length)<=n))
def fv(w x:dy):Nat:=val 0 (x.drop (w++[32]).length)
def fl(w:dy):List dy->Option (List ae×List dy)
 |[]=>none
 |x::r=>bif nR w x r.length then(j5 (r.take (fv w x))).map (fun cs=>(cs,r.drop (fv w x)))else none
theorem Cp(w x:dy)(r:List dy):fl w (x::r)=bif nR w x r.length then(j5 (r.take (fv w x))).map (fun cs=>(cs,r.drop (fv w x)))else none:=rfl
theorem xa(L:List dy)(h:L.length<=4194304)(hs:(dI L).length<=4194304):GF (L.map nl) []=some (dI L):=by
 cases L with
 |nil=>rfl
 |cons a l =>
  have e:((l.map nl).map List.length).sum+(nl a).length=(dI (a::l)).length:=by
   simp[dI,length_flatten];omega
  rw[map_cons,Bl [] (nl a) (l.map nl) (by decide) (by simp only[length_map,length_cons]at h|-;omega) (by omega)];simp[dI];rfl
theorem Dv{w:dy}{L r:List dy}{cs:List ae}(h:fl w L=some (cs,r)):∃k,r=L.drop k:=by
 cases L with
 |nil=>cases h
 |cons x l =>
  rw[Cp]at h;cases ho:nR w x l.length
  .rw[ho]at h;cases h
  .rw[ho,cond_true,Option.map_eq_some_iff]at h
   obtain⟨c,_,e⟩:=h;cases e;exact⟨fv w x+1,rfl⟩
theorem Di(a b:List dy):dI (a++b)=dI a++dI b:=by simp[dI]
theorem xQ(L:List dy)(k:Nat):(dI (L.take k)).length+(dI (L.drop k)).length=(dI L).length:=by
 rw[<-length_append,<-Di,take_append_drop]
theorem Ie(L:List dy)(k:Nat):(dI (L.drop k)).length<=(dI L).length:=by have:=xQ L k;omega
theorem QR(L:List dy)(k:Nat):(dI (L.take k)).length<=(dI L).length:=by have:=xQ L k;omega
theorem KN(L:List dy):L.length<=(dI L).length:=by
 induction L with
 |nil=>simp
 |cons x L ih=>rw[p7];simp;omega
theorem Hp{L:List dy}{x:dy}(h:x∈L):x.length<=(dI L).length:=by
 induction L with
 |nil=>cases h
 |cons y L ih =>
  rw[p7]
  rcases mem_cons.1 h with rfl|h
  .simp
  .have:=ih h;simp;omega
theorem Ou(w:dy)(l:List dy):∃a e r,zo w l true=some (a,e,r,true):=by
 unfold zo;rw[oe,ze,Mi,ze];exact⟨_,_,_,rfl⟩
def Ve(p:Option (List ae×List dy))(z:Option (List ae×Int×List dy×Bool)):Prop:=match p with
 |some q=>z=some (bif !decide (eD q.1=0)then []else q.1,eD q.1,q.2.map nl,false)
 |none=>∃a e r,z=some (a,e,r,true)
theorem QF(w:dy)(L:List dy)(hw:(10:UInt8)∉w)(hl:w.length<=100)(h10:∀x∈L,(10:UInt8)∉x)(hs:(dI L).length<=4194304) :
  Ve (fl w L) (zo w (L.map nl) false):=by
 unfold zo
 cases L with
 |nil=>rw[map_nil,Nj,ze,Mi,ze];exact⟨_,_,_,rfl⟩
 |cons x r =>
  have hx:=Hp (mem_cons_self (a:=x) (l:=r));have hc:=KN (x::r);simp only[length_cons]at hc;rw[map_cons,NH w x _ hw hl (by omega)];have hk:nR w x r.length=(fP (w++[32]) x&&(l7 9 (x.drop (w++[32]).length)&&decide (val 0 (x.drop (w++[32]).length)<=r.length))):=rfl
  have hno:nR w x r.length=false->fl w (x::r)=none:=fun h=>by rw[Cp,h];rfl
  cases hp:fP (w++[32]) x
  .rw[hp,Bool.false_and]at hk
   rw[hno hk,ze,Mi,ze];simp only[Bool.not_false,Bool.true_or,cond_true,cond_false];exact⟨_,_,_,rfl⟩
  rw[hp,Bool.true_and]at hk;rw[cond_true,Bool.not_true,ze];simp only;rw[Mi];cases hn:l7 9 (x.drop (w++[32]).length)
  .rw[hn,Bool.false_and]at hk
   rw[hno hk,cond_false,ze];exact⟨_,_,_,rfl⟩
  rw[hn,Bool.true_and]at hk;rw[cond_true,ze];simp only[Bool.not_true,Bool.false_or]
  have hyes:nR w x r.length=true->fl w (x::r)=(j5 (r.take (val 0 (x.drop (w++[32]).length)))).map (fun cs=>(cs,r.drop (val 0 (x.drop (w++[32]).length)))):=fun h=>by rw[Cp,h];rfl
  revert hk hyes
  generalize val 0 (x.drop (w++[32]).length)=n;intro hk hyes;rw[length_map]
  by_cases hle:n<=r.length
  .rw[decide_eq_true hle]at hk
   rw[hyes hk,decide_eq_false (show ¬ ((r.length:Int)<(n:Int))by omega),cond_false,zg (by omega)]
   have hs2:(dI r).length<=4194304:=by
    have:=Ie (x::r) 1;simp only[drop_succ_cons,drop_zero]at this;omega
   have hs3:=QR r n;simp only[Int.toNat_natCast];rw[<-map_take,xa _ (by rw[length_take];omega) (by omega),ze,TA _ (by omega),ze,zg (by omega),<-map_drop]
   have hp:=nP (r.take n) fun y hy=>h10 y (mem_cons_of_mem _ (mem_of_mem_take hy))
   revert hp
   cases j5 (r.take n)with
   |none=>rintro⟨k,e⟩;rw[e];exact⟨_,_,_,rfl⟩
   |some cs =>
    intro e;simp only at e;rw[e]
    show _=some _
    have h8:=oL cs;cases he:decide (eD cs=0)
    .simp only[Bool.not_false,cond_true,decide_eq_false h8]
    .simp only[Bool.not_true,cond_false,of_decide_eq_true he]
     rfl
  .rw[decide_eq_false hle]at hk
   rw[hno hk,decide_eq_true (show(r.length:Int)<(n:Int)by omega),cond_true];exact⟨_,_,_,rfl⟩
theorem vF{s t:dy}(h:jr s=(t,0)):iO t=s:=by
 unfold jr at h;cases hq:B4 s
 .rw[hq]at h;cases h
 .rw[hq,cond_true]at h
  unfold eu at h
  cases hu:uL (mid s)with
  |none=>rw[hu]at h;cases h
  |some u =>
   rw[hu]at h;cases h;have:=nM s hq;rw[<-QU hu]at this;rw[this];rfl
theorem N1{s:dy}(h:decide ((jr s).2=0)=true):iO (jr s).1=s :=
 vF (by have:=of_decide_eq_true h;rw[<-this])
theorem pg{b:dy}(h:gY b=true):jK (decide (b=([49]:dy)))=b:=by
 unfold gY at h;rw[Bool.or_eq_true,decide_eq_true_eq,decide_eq_true_eq]at h
 rcases h with rfl|rfl <;> rfl
theorem Ey{s a b c:dy}(h:zR 32 s=[a,b,c]):s=a++32::(b++32::c):=by
 rw[DO]at h;split at h
 .rename_i h1
  obtain⟨e1,e2,_⟩:=rv (c:=32) (s:=s) (by
   apply Classical.byContradiction;intro hn;rw[yT hn]at h1;cases h1)
  rw[List.cons.injEq]at h;obtain⟨rfl,h⟩:=h;rw[DO]at h;split at h
  .rename_i h3
   obtain⟨e3,e4,_⟩:=rv (c:=32) (s:=(dN 32 s).2.1) (by
    apply Classical.byContradiction;intro hn;rw[yT hn]at h3;cases h3)
   rw[List.cons.injEq]at h;obtain⟨rfl,h⟩:=h
   have hc:(dN 32 (dN 32 s).2.1).2.1=c:=by
    rw[DO]at h;split at h
    .rw[List.cons.injEq]at h
     exact absurd h.2 (LQ _ _)
    .rw[List.cons.injEq]at h
     exact h.1
   rw[<-hc,<-e4,<-e2]
  .cases h
 .cases h
theorem tP(l:dy)(h:nT l=true):iN (jh l)=l:=by
 unfold nT at h;rw[Bool.and_eq_true]at h;obtain⟨h1,h2⟩:=h
 have hg:(!(dN 32 l).2.2||decide (fU l=[]))=false:=by
  cases hg:(!(dN 32 l).2.2||decide (fU l=[]))
  .rfl
  .unfold fm at h1
   dsimp only at h1;rw[hg]at h1;cases h1
 have ha:(dN 32 l).2.2=true:=by
  cases ha:(dN 32 l).2.2
  .rw[ha]at hg;cases hg
  .rfl
 have hl:l=jP l++32::mP l:=by
  refine(rv (c:=32) (s:=l) ?_).2.1
  apply Classical.byContradiction;intro hn;rw[yT hn]at ha;cases ha
 have hr2:fM l=true->mP l=fU l++32::zcc l:=fun ht=>by
  refine(rv (c:=32) (s:=mP l) ?_).2.1
  apply Classical.byContradiction;intro hn;unfold fM at ht;rw[yT hn]at ht;cases ht
 have hr1:fM l=false->fU l=mP l:=fun ht=>we l ht
 have hrd:∀w,jP l=w->fm l=(let k:=fU l;let u:=jr (zcc l)
   bif decide (w=m8)||decide (w=gU)then(⟨w,eE,⟨k,u.1⟩,eC⟩,fM l&&decide (u.2=0))else
   bif ((decide (w=m7)||decide (w=qh))||decide (w=gj))||decide (w=mQ)then(⟨w,⟨k,u.1,decide (w=qh)||decide (w=mQ)⟩,eI,eC⟩,fM l&&decide (u.2=0))else
   bif decide (w=uY)then(match fM l,gH k (zR 32 (zcc l))with
    |true,some s=>(⟨w,eE,eI,s⟩,true)
    |_,_=>(⟨[],eE,eI,eC⟩,false))else
   bif decide (w=uV)then(⟨w,⟨k,[],false⟩,eI,eC⟩,!fM l)else
   bif decide (w=uU)then(⟨w,eE,⟨k,[]⟩,eC⟩,!fM l)else
   bif decide (w=uM)then(⟨w,eE,eI,⟨k,[],false,false⟩⟩,!fM l)else
   (⟨w,eE,eI,eC⟩,!fM l)):=fun w e=>by
  unfold fm
  simp only[hg,cond_false,e] <;> rfl
 by_cases w1:jP l=gj
 .have e:fm l=(⟨gj,⟨fU l,(jr (zcc l)).1,false⟩,eI,eC⟩,fM l&&decide ((jr (zcc l)).2=0)):=hrd _ w1
  rw[e,Bool.and_eq_true]at h1;unfold jh;rw[e]
  show gj++32::(fU l++32::iO (jr (zcc l)).1)=l
  rw[N1 h1.2,<-hr2 h1.1,<-w1,<-hl]
 by_cases w2:jP l=mQ
 .have e:fm l=(⟨mQ,⟨fU l,(jr (zcc l)).1,true⟩,eI,eC⟩,fM l&&decide ((jr (zcc l)).2=0)):=hrd _ w2
  rw[e,Bool.and_eq_true]at h1;unfold jh;rw[e]
  show mQ++32::(fU l++32::iO (jr (zcc l)).1)=l
  rw[N1 h1.2,<-hr2 h1.1,<-w2,<-hl]
 by_cases w3:jP l=uV
 .have e:fm l=(⟨uV,⟨fU l,[],false⟩,eI,eC⟩,!fM l):=hrd _ w3
  rw[e,Bool.not_eq_true']at h1;unfold jh;rw[e]
  show uV++32::fU l=l
  rw[hr1 h1,<-w3,<-hl]
 by_cases w4:jP l=gU
 .have e:fm l=(⟨gU,eE,⟨fU l,(jr (zcc l)).1⟩,eC⟩,fM l&&decide ((jr (zcc l)).2=0)):=hrd _ w4
  rw[e,Bool.and_eq_true]at h1;unfold jh;rw[e]
  show gU++32::(fU l++32::iO (jr (zcc l)).1)=l
  rw[N1 h1.2,<-hr2 h1.1,<-w4,<-hl]
 by_cases w5:jP l=uU
 .have e:fm l=(⟨uU,eE,⟨fU l,[]⟩,eC⟩,!fM l):=hrd _ w5
  rw[e,Bool.not_eq_true']at h1;unfold jh;rw[e]
  show uU++32::fU l=l
  rw[hr1 h1,<-w5,<-hl]
 by_cases w7:jP l=uM
 .have e:fm l=(⟨uM,eE,eI,⟨fU l,[],false,false⟩⟩,!fM l):=hrd _ w7
  rw[e,Bool.not_eq_true']at h1;unfold jh;rw[e]
  show uM++32::fU l=l
  rw[hr1 h1,<-w7,<-hl]
 by_cases w6:jP l=uY
 .have e:fm l=(match fM l,gH (fU l) (zR 32 (zcc l))with
    |true,some s=>(⟨uY,eE,eI,s⟩,true)
    |_,_=>(⟨[],eE,eI,eC⟩,false)):=hrd _ w6
  cases ht:fM l
  .rw[ht]at e;rw[e]at h1;cases h1
  cases hs:gH (fU l) (zR 32 (zcc l))with
  |none=>rw[ht,hs]at e;rw[e]at h1;cases h1
  |some s =>
   rw[ht,hs]at e;unfold jh;rw[e]
   show uY++32::(s.w++32::(s.a++32::(jK s.D++32::jK s.E)))=l
   unfold gH at hs;split at hs
   .rename_i a b c hsp
    cases hb:(decide (a=[])||!gY b)||!gY c
    .rw[hb,cond_false]at hs
     cases hs;simp only[Bool.or_eq_false_iff,Bool.not_eq_false']at hb;simp only;rw[pg hb.1.2,pg hb.2,<-Ey hsp,<-hr2 ht,<-w6,<-hl]
    .rw[hb]at hs;cases hs
   .cases hs
 .exfalso
  have hw:(fm l).1.H=jP l:=by
   rw[hrd _ rfl];simp only[decide_eq_false w1,decide_eq_false w2,decide_eq_false w3,decide_eq_false w4,decide_eq_false w5,decide_eq_false w6,decide_eq_false w7,Bool.or_false,cond_false];cases decide (jP l=m8)
   .cases decide (jP l=m7)||decide (jP l=qh) <;> rfl
   .rfl
  rw[hw]at h2;unfold i7 at h2;simp only[decide_eq_false w1,decide_eq_false w2,decide_eq_false w3,decide_eq_false w4,decide_eq_false w5,decide_eq_false w6,decide_eq_false w7,Bool.or_false,cond_false]at h2;cases h2
theorem Om:∀(L:List dy) {cs:List ae},j5 L=some cs->gg cs=dI L/\cs.length=L.length
 |[],cs,h=>by cases h;exact⟨rfl,rfl⟩
 |x::L,cs,h=>by
  unfold j5 at h
  cases hs:pQ x with
  |none=>rw[hs]at h;cases h
  |some c =>
   cases hr:j5 L with
   |none=>rw[hs,hr]at h;cases h
   |some l =>
    rw[hs,hr]at h;cases h;obtain⟨e1,e2⟩:=Om L hr;obtain⟨o1,rfl⟩:=LR hs;rw[Gy,p7,tP x o1,e1];exact⟨by simp,by simp[e2]⟩
theorem Nr{p x:dy}(h:fP p x=true):x=p++x.drop p.length:=by
 have:=of_decide_eq_true h
 conv=>lhs;rw[<-take_append_drop p.length x,this]
theorem P5{w:dy}{L r:List dy}{cs:List ae}(h:fl w L=some (cs,r)):dI L=pO w cs++dI r:=by
 cases L with
 |nil=>cases h
 |cons x l =>
  rw[Cp]at h;cases ho:nR w x l.length
  .rw[ho]at h;cases h
  .rw[ho,cond_true,Option.map_eq_some_iff]at h
   obtain⟨c,hs,e⟩:=h;cases e;unfold nR at ho;rw[Bool.and_eq_true,Bool.and_eq_true]at ho;obtain⟨h1,h2,h3⟩:=ho;have h3:fv w x<=l.length:=of_decide_eq_true h3;obtain⟨e1,e2⟩:=Om _ hs;obtain⟨_,_,_,hv⟩:=wJ h2;have hx:=Nr h1;unfold pO;rw[e2,length_take,Nat.min_eq_left h3,La (by omega),Int.toNat_natCast]
   show dI (x::l)=w++32::(Go.Lib.decDigits (val 0 (x.drop (w++[32]).length))++10::gg cs)++dI (l.drop (fv w x))
   rw[hv,e1,p7]
   have hcl:dI l=dI (l.take (fv w x))++dI (l.drop (fv w x)):=by rw[<-Di,take_append_drop]
   rw[hcl];generalize fv w x=n
   conv=>lhs;rw[hx]
   simp
theorem EH:∀(n:Nat) (s:dy),s.length<=n->∃L t,zR 10 s=L++[t]/\s=dI L++t/\(∀x∈L,(10:UInt8)∉x)/\(10:UInt8)∉t:=by
 intro n
 induction n with
 |zero =>
  intro s h;obtain rfl:=length_eq_zero_iff.1 (Nat.le_zero.1 h);exact⟨[],[],rfl,rfl,by simp,by simp⟩
 |succ n ih =>
  intro s h
  by_cases hm:(10:UInt8)∈s
  .obtain⟨h1,h2,h3⟩:=rv hm
   have hl:=(Av 10 s).2.2 h1;obtain⟨L,t,e1,e2,e3,e4⟩:=ih (dN 10 s).2.1 (by omega);refine⟨(dN 10 s).1::L,t,?_,?_,?_,e4⟩
   .rw[DO,if_pos h1,e1];rfl
   .rw[p7,append_assoc,cons_append,<-e2];exact h2
   .intro x hx
    rcases mem_cons.1 hx with rfl|hx
    .exact h3
    .exact e3 x hx
  .exact⟨[],s,GK hm,rfl,by simp,hm⟩
theorem sR(c:UInt8):∀(L:List dy) (t:dy),FD c (L++[t])=L.map (fun x=>x++[c])++[t]
 |[],t=>rfl
 |x::L,t=>by rw[cons_append,pA c x (by simp),sR c L t];rfl
def tY(c:UInt8):Bool:=(decide (48<=(c.toNat:Int))&&decide ((c.toNat:Int)<=57))||(decide (97<=(c.toNat:Int))&&decide ((c.toNat:Int)<=102))
def Ad(s:dy):Bool:=s.all tY&&decide ((s.length:Int)=16)
def ZJ:aj:=⟨[],[],[]⟩
def xo(j:aj)(n:Nat):aj×Int :=
 bif !eS j.F then(ZJ,5)else bif !decide (eJ j=0)then(ZJ,eJ j)else bif decide (65536<(n:Int))then(ZJ,4)else(j,0)
def yr(L:List dy)(j:aj)(y:dy):aj×Int :=
 bif !fP (ie++[32]) y||!Ad (y.drop 4)then(ZJ,8)else bif !decide (fY (dI L.dropLast)=y.drop 4)then(ZJ,14)else xo j (dI L).length
def C3(L:List dy)(id:dy)(c:List ae):Option (List ae×List dy)->aj×Int
 |none=>(ZJ,8)
 |some q=>match q.2 with
  |[y]=>yr L ⟨id,c,q.1⟩ y
  |_=>(ZJ,8)
def PU(L:List dy)(id:dy):Option (List ae×List dy)->aj×Int
 |none=>(ZJ,8)
 |some q=>C3 L id q.1 (fl fZ q.2)
def PJ(L:List dy)(t:dy):aj×Int :=
 bif !decide (t=[])then(ZJ,8)else match L with
  |[]=>(ZJ,8)
  |x::r=>bif !fP (wJou++[32]) x then(ZJ,8)else PU L (x.drop 8) (fl ic r)
theorem AL(s:dy):(jr s).1.length<=s.length:=by
 unfold jr;cases B4 s
 .simp
 .rw[cond_true]
  cases hu:uL (mid s)with
  |none=>simp[eu]
  |some u =>
   have h1:=QU hu;have h2:=sG u;rw[h1]at h2
   have h3:(mid s).length<=s.length:=by unfold mid;simp;omega
   simp only[eu];omega
def QD(N:Nat)(x:al×Bool):Prop:=x.1.J.B.length<=N/\x.1.K.Value.length<=N
theorem QB{N:Nat}{b:Bool}{x y:al×Bool}(h:QD N x)(h':QD N y):QD N (bif b then x else y):=by cases b <;> assumption
theorem wj(l:dy):QD l.length (fm l):=by
 have h1:=AL (zcc l);have h2:=(kM l).2;unfold fm;refine QB ⟨Nat.zero_le _,Nat.zero_le _⟩ (QB ⟨Nat.zero_le _,Nat.le_trans h1 h2⟩ (QB ⟨Nat.le_trans h1 h2,Nat.zero_le _⟩ (QB ?_ (QB ⟨Nat.zero_le _,Nat.zero_le _⟩ (QB ⟨Nat.zero_le _,Nat.zero_le _⟩ (QB ⟨Nat.zero_le _,Nat.zero_le _⟩ ⟨Nat.zero_le _,Nat.zero_le _⟩))))));split
 .exact⟨Nat.zero_le _,Nat.zero_le _⟩
 .exact⟨Nat.zero_le _,Nat.zero_le _⟩
theorem BN(l:dy)(hl:l.length<=4194304):BW (jh l):=by
 have:=wj l;exact⟨by have:=this.1;unfold jh;simp only;omega,by have:=this.2;unfold jh;simp only;omega⟩
theorem NY:∀(L:List dy) {cs:List ae},j5 L=some cs->∀c∈cs,∃x∈L,c=jh x
 |[],cs,h,c,hc=>by cases h;cases hc
 |x::L,cs,h,c,hc=>by
  unfold j5 at h
  cases hs:pQ x with
  |none=>rw[hs]at h;cases h
  |some d =>
   cases hr:j5 L with
   |none=>rw[hs,hr]at h;cases h
   |some l =>
    rw[hs,hr]at h;cases h
    rcases mem_cons.1 hc with rfl|hc
    .exact⟨x,mem_cons_self ..,(LR hs).2⟩
    .obtain⟨y,hy,e⟩:=NY L hr c hc
     exact⟨y,mem_cons_of_mem _ hy,e⟩
theorem vV{L:List dy}{cs:List ae}(h:j5 L=some cs)(hs:(dI L).length<=4194304):uD cs:=by
 obtain⟨e1,e2⟩:=Om L h;have hl:=KN L;refine⟨fun c hc=>?_,fun c hc=>?_,by rw[e1];exact hs,by omega⟩
 .obtain⟨x,hx,rfl⟩:=NY L h c hc
  have:=Hp hx;exact xP x (by omega)
 .obtain⟨x,hx,rfl⟩:=NY L h c hc
  have:=Hp hx;exact BN x (by omega)
theorem Li{w:dy}{L r:List dy}{cs:List ae}(h:fl w L=some (cs,r))(hs:(dI L).length<=4194304):uD cs/\r.length+1<=L.length/\(dI r).length<=(dI L).length/\r=L.drop (L.length-r.length):=by
 cases L with
 |nil=>cases h
 |cons x l =>
  rw[Cp]at h;cases ho:nR w x l.length
  .rw[ho]at h;cases h
  .rw[ho,cond_true,Option.map_eq_some_iff]at h
   obtain⟨c,hc,e⟩:=h;cases e;unfold nR at ho;rw[Bool.and_eq_true,Bool.and_eq_true]at ho;have h3:fv w x<=l.length:=of_decide_eq_true ho.2.2;have h0:(dI l).length<=(dI (x::l)).length:=Ie (x::l) 1;have h1:=QR l (fv w x);have h2:=Ie l (fv w x);refine⟨vV hc (by omega),by simp,by omega,?_⟩
   have:(x::l).length-(l.drop (fv w x)).length=fv w x+1:=by simp;omega
   rw[this];rfl
theorem qG{x y:dy}{r r1:List dy}{c o:List ae}(hx:fP (wJou++[32]) x=true)(h1:fl ic r=some (c,r1))(h2:fl fZ r1=some (o,[y]))
  (hy:fP (ie++[32]) y=true) (hs:fY (dI ((x::r).dropLast))=y.drop 4):fh ⟨x.drop 8,c,o⟩=dI (x::r):=by
 have e1:=P5 h1;have e2:=P5 h2;have ex:=Nr hx;have ey:=Nr hy
 have hr:∃q,r=q++[y]:=by
  obtain⟨k,rfl⟩:=Dv h1;obtain⟨m,hm⟩:=Dv h2;rw[drop_drop]at hm;exact⟨r.take (k+m),by rw[hm,take_append_drop]⟩
 obtain⟨q,rfl⟩:=hr
 have hdl:(x::(q++[y])).dropLast=x::q:=by
  rw[show(x::(q++[y]))=(x::q)++[y]from rfl,dropLast_concat]
 rw[hdl]at hs
 have hc:dI q=pO ic c++pO fZ o:=by
  have:dI q++dI [y]=(pO ic c++pO fZ o)++dI [y]:=by
   rw[<-Di,e1,e2,append_assoc]
  exact append_cancel_right this
 have hb:gu ⟨x.drop 8,c,o⟩=dI (x::q):=by
  rw[p7,hc]
  show wJou++32::(x.drop 8++10::(pO ic c++pO fZ o))=_
  conv=>rhs;rw[ex]
  simp[wJou]
 unfold fh nv;rw[hb,hs,show(x::(q++[y]))=(x::q)++[y]from rfl,Di]
 congr 1
 show _=dI [y]
 rw[p7]
 conv=>rhs;rw[ey]
 simp[ie,dI]
theorem SZ(s:dy):Gt s=some (Ad s):=by
 unfold Gt Ad;simp only[dH];rw[sY tY (fun i x nx k=>by rw[vc,Bool.not_not];rfl)]
 cases s.all tY <;> rfl
noncomputable def vh(text:dy)(P:List dy)(id:dy)(c:List ae)(ec:Int)(r6:List ae×Int×List dy×Bool):Option (aj×Int) :=
 jp (S:=Int) (fun ahead_8 =>
  call (zI ([115,117,109]:dy) r6.2.2.1 r6.2.2.2) fun r_10 =>
  dA ((!(r_10.2.1||(decide (0<(r_10.2.2.length:Int)))))=true->(0<=IntKind.i64.wrap ((P.length:Int)-1)/\IntKind.i64.wrap ((P.length:Int)-1)<(P.length:Int))) <|
  callG (!((r_10.2.1||(decide (0<(r_10.2.2.length:Int))))||(!decide ((P.getD ((IntKind.i64.wrap ((P.length:Int)-1)).toNat) [])=[])))) (Gt r_10.1) false fun r_12 =>
  bif (((r_10.2.1||(decide (0<(r_10.2.2.length:Int))))||(!decide ((P.getD ((IntKind.i64.wrap ((P.length:Int)-1)).toNat) [])=[])))||(!r_12))then
   some ((aj.mk [] [] []),8)
  else
  dA (0<=ahead_8/\ahead_8<=(text.length:Int)) <|
  call (Ck (List.take ahead_8.toNat text)) fun r_15 =>
  bif !decide (r_10.1=r_15)then
   some ((aj.mk [] [] []),14)
  else
  call (ta id) fun r_16 =>
  bif !r_16 then
   some ((aj.mk [] [] []),5)
  else
  bif !decide (ec=0)then
   some ((aj.mk [] [] []),ec)
  else
  bif !decide (r6.2.1=0)then
   some ((aj.mk [] [] []),r6.2.1)
  else
  bif decide (65536<(text.length:Int))then
   some ((aj.mk [] [] []),4)
  else
  some ((aj.mk id c r6.1),0)) fun k_9 =>
 bif decide (0<(r6.2.2.1.length:Int))then
  eB r6.2.2.1 0 fun s_17 =>
  k_9 (IntKind.i64.wrap ((text.length:Int)-(s_17.length:Int)))
 else
 k_9 (text.length:Int)
theorem qK(text:dy):AH text=call (GU text ([10]:dy)) fun r_2 =>
 dA (0<=IntKind.i64.wrap ((r_2.length:Int)-1)/\IntKind.i64.wrap ((r_2.length:Int)-1)<=(r_2.length:Int)) <|
 call (zI ([106,111,117,114,110,97,108]:dy) (List.take ((IntKind.i64.wrap ((r_2.length:Int)-1)).toNat) r_2) false) fun r_4 =>
 call (zo ([99,104,97,110,103,101,115]:dy) r_4.2.2 r_4.2.1) fun r_5 =>
 call (zo ([111,108,100]:dy) r_5.2.2.1 r_5.2.2.2) fun r_6 =>
 vh text r_2 r_4.1 r_5.1 r_5.2.1 r_6:=rfl
theorem M8(text:dy)(P:List dy)(id:dy)(c:List ae)(ec:Int)(a:List ae)(e:Int)(r:List dy):vh text P id c ec (a,e,r,true)=some (ZJ,8):=by
 unfold vh;simp only[dH,oe,ze]
 have:∀n:Int,(dA ((!(true||(decide (0<(r.length:Int)))))=true->(0<=IntKind.i64.wrap ((P.length:Int)-1)/\IntKind.i64.wrap ((P.length:Int)-1)<(P.length:Int))) (some (ZJ,n)):Option (aj×Int))=some (ZJ,n):=fun n=>zg (by intro q;cases q) _
 cases hd:decide (0<(r.length:Int))
 .exact this 8
 .rw[cond_true]
  have hl:0<r.length:=by have:=of_decide_eq_true hd;omega
  rw[show eB r 0=eB r ((0:Nat):Int)from rfl,ft hl];rw[hd]at this;exact this 8
theorem sI(text:dy)(P l:List dy)(id:dy):(call (zo ([99,104,97,110,103,101,115]:dy) l true) fun r_5 =>
 call (zo ([111,108,100]:dy) r_5.2.2.1 r_5.2.2.2) fun r_6=>vh text P id r_5.1 r_5.2.1 r_6)=some (ZJ,8):=by
 obtain⟨a,e,r,h⟩:=Ou [99,104,97,110,103,101,115] l;rw[h,ze];obtain⟨a',e',r',h'⟩:=Ou [111,108,100] r
 show(call (zo [111,108,100] r true) fun r_6=>vh text P id a e r_6)=_
 rw[h',ze,M8]
theorem BU(text:dy)(P l:List dy)(id:dy)(c:List ae)(ec:Int):(call (zo ([111,108,100]:dy) l true) fun r_6=>vh text P id c ec r_6)=some (ZJ,8):=by
 obtain⟨a',e',r',h'⟩:=Ou [111,108,100] l;rw[h',ze,M8]
theorem BX(s:dy)(hs:s.length<=4194304){L:List dy}{t:dy}(h:zR 10 s=L++[t])(e:s=dI L++t)(h10:∀x∈L,(10:UInt8)∉x)
  (hT:∀(id:dy) (c o:List ae) (r2:List dy),uD c->uD o->(∃x r r1,L=x::r/\id=x.drop 8/\fP (wJou++[32]) x=true/\fl ic r=some (c,r1)/\fl fZ r1=some (o,r2)) ->
   vh s (L.map nl++[t]) id (bif !decide (eD c=0)then []else c) (eD c) (bif !decide (eD o=0)then []else o,eD o,r2.map nl,false)=some (PJ L t)) :
  AH s=some (PJ L t):=by
 have hsz:(dI L).length<=4194304:=by rw[e,length_append]at hs;omega
 have hl:=KN L;rw[qK,Sy s 10 (by omega),ze,h,sR]
 show(dA (0<=IntKind.i64.wrap (((L.map nl++[t]).length:Int)-1)/\IntKind.i64.wrap (((L.map nl++[t]).length:Int)-1)<=((L.map nl++[t]).length:Int)) <|
  call (zI wJou (List.take ((IntKind.i64.wrap (((L.map nl++[t]).length:Int)-1)).toNat) (L.map nl++[t])) false) fun r_4 =>
  call (zo ic r_4.2.2 r_4.2.1) fun r_5 =>
  call (zo fZ r_5.2.2.1 r_5.2.2.2) fun r_6 =>
  vh s (L.map nl++[t]) r_4.1 r_5.1 r_5.2.1 r_6)=_
 have hw:IntKind.i64.wrap (((L.map nl++[t]).length:Int)-1)=(L.length:Int):=by
  rw[length_append,length_map,length_singleton,gS (by omega) (by omega)];omega
 rw[zg (by rw[hw];simp;omega),hw,Int.toNat_natCast,take_left' (by simp)]
 cases L with
 |nil =>
  rw[map_nil,Nj,ze];refine(sI s _ _ _).trans ?_;unfold PJ
  cases decide (t=[]) <;> rfl
 |cons x r =>
  have hx:=Hp (mem_cons_self (a:=x) (l:=r));rw[map_cons,NH wJou x _ (by decide) (by decide) (by omega),ze];cases hp:fP (wJou++[32]) x
  .refine(sI s _ _ _).trans ?_
   unfold PJ;simp only[hp]
   cases decide (t=[]) <;> rfl
  have h0:(dI r).length<=(dI (x::r)).length:=Ie (x::r) 1;have hc:=QF ic r (by decide) (by decide) (fun y hy=>h10 y (mem_cons_of_mem _ hy)) (by omega)
  have hPJ:PJ (x::r) t=bif !decide (t=[])then(ZJ,8)else PU (x::r) (x.drop 8) (fl ic r):=by unfold PJ;simp only[hp];rfl
  simp only[Bool.not_true]
  cases h1:fl ic r with
  |none =>
   rw[h1]at hc hPJ;obtain⟨a,e1,r1,hc⟩:=hc;rw[hc,ze,hPJ];refine(BU s _ _ _ _ _).trans ?_
   cases decide (t=[]) <;> rfl
  |some q =>
   obtain⟨c,r1⟩:=q;rw[h1]at hc hPJ;obtain⟨s1,a1,a2,a3⟩:=Li h1 (by omega);obtain⟨k,hk⟩:=Dv h1;rw[show zo ic (List.map nl r) false=_ from hc,ze];have hc2:=QF fZ r1 (by decide) (by decide) (fun y hy=>h10 y (mem_cons_of_mem _ (mem_of_mem_drop (hk ▸ hy)))) (by omega)
   cases h2:fl fZ r1 with
   |none =>
    rw[h2]at hc2;obtain⟨a,e1,r2,hc2⟩:=hc2;simp only;rw[hc2,ze,M8,hPJ]
    show _=some (bif !decide (t=[])then(ZJ,8)else C3 (x::r) (x.drop 8) c (fl fZ r1))
    rw[h2]
    cases decide (t=[]) <;> rfl
   |some q =>
    obtain⟨o,r2⟩:=q;rw[h2]at hc2;obtain⟨s2,b1,b2,b3⟩:=Li h2 (by omega);simp only;rw[show zo fZ (List.map nl r1) false=_ from hc2,ze];exact hT _ c o r2 s1 s2 ⟨x,r,r1,rfl,rfl,hp,h1,h2⟩
theorem tm(s:dy)(hs:s.length<=4194304){L:List dy}{t:dy}(e:s=dI L++t)(h10:∀x∈L,(10:UInt8)∉x)
  (id:dy) (c o:List ae) (r2:List dy) (s1:uD c) (s2:uD o) (hex:∃x r r1,L=x::r/\id=x.drop 8/\fP (wJou++[32]) x=true/\fl ic r=some (c,r1)/\fl fZ r1=some (o,r2)) :
   vh s (L.map nl++[t]) id (bif !decide (eD c=0)then []else c) (eD c) (bif !decide (eD o=0)then []else o,eD o,r2.map nl,false)=some (PJ L t):=by
 obtain⟨x,r,r1,rfl,rfl,hp,h1,h2⟩:=hex
 have hsz:(dI (x::r)).length<=4194304:=by rw[e,length_append]at hs;omega
 have hl:=KN (x::r)
 have hPJ:PJ (x::r) t=bif !decide (t=[])then(ZJ,8)else C3 (x::r) (x.drop 8) c (some (o,r2)):=by
  unfold PJ;simp only[hp]
  show(bif !decide (t=[])then(ZJ,8)else PU (x::r) (x.drop 8) (fl ic r))=_
  rw[h1]
  show(bif !decide (t=[])then(ZJ,8)else C3 (x::r) (x.drop 8) c (fl fZ r1))=_
  rw[h2]
 rw[hPJ]
 have hw:IntKind.i64.wrap ((((x::r).map nl++[t]).length:Int)-1)=((x::r).length:Int):=by
  rw[length_append,length_map,length_singleton,gS (by omega) (by omega)];omega
 have hgd:((x::r).map nl++[t]).getD (x::r).length []=t:=by
  rw[getD_eq_getElem?_getD,getElem?_append_right (by simp)];simp
 rcases r2 with _|⟨y,z⟩
 .unfold vh
  simp only[dH,map_nil];rw[show decide (0<((([]:List dy).length:Nat):Int))=false from rfl,cond_false,Nj,ze];simp only;rw[zg (by intro q;cases q)];refine Eq.trans (b:=some (ZJ,8)) rfl ?_
  cases decide (t=[]) <;> rfl
 .unfold vh
  simp only[dH,map_cons]
  have hym:y∈x::r:=by
   obtain⟨k,e1⟩:=Dv h1;obtain⟨m,hm⟩:=Dv h2;rw[e1,drop_drop]at hm;exact mem_cons_of_mem _ (mem_of_mem_drop (hm ▸ mem_cons_self ..))
  have hyl:=Hp hym;rw[show decide (0<(((nl y::z.map nl).length:Nat):Int))=true from decide_eq_true (by simp),cond_true,show eB (nl y::z.map nl) 0=eB (nl y::z.map nl) ((0:Nat):Int)from rfl,ft (by simp)];simp only[getElem_cons_zero];rw[NH [115,117,109] y _ (by decide) (by decide) (by omega),ze];have hw':IntKind.i64.wrap (((nl x::List.map nl r++[t]).length:Int)-1)=((x::r).length:Int):=hw;have hgd':(nl x::List.map nl r++[t]).getD (x::r).length []=t:=hgd;simp only[hw',Int.toNat_natCast,hgd'];rw[zg (by intro _;simp;omega),SZ,iT]
  rcases z with _|⟨y',z⟩
  .cases ht:decide (t=[])
   .simp only[Bool.not_false,Bool.or_true,Bool.true_or,cond_true]
    rfl
   .cases hpy:fP ([115,117,109]++[32]) y
    .simp only[Bool.not_false,Bool.or_true,Bool.true_or,cond_true,Bool.not_true,cond_false]
     have hpy:fP (ie++[32]) y=false:=hpy
     show _=some (yr (x::r) ⟨x.drop 8,c,o⟩ y)
     unfold yr;rw[hpy];rfl
    .have hr:∃q,r=q++[y]:=by
      obtain⟨k,e1⟩:=Dv h1;obtain⟨m,hm⟩:=Dv h2;rw[e1,drop_drop]at hm;exact⟨r.take (k+m),by rw[hm,take_append_drop]⟩
     obtain⟨q,hq⟩:=hr;obtain rfl:=of_decide_eq_true ht;rw[append_nil]at e
     have hdl:(x::r).dropLast=x::q:=by
      subst hq;rw[show(x::(q++[y]))=(x::q)++[y]from rfl,dropLast_concat]
     have hcat:s=dI ((x::r).dropLast)++nl y:=by
      rw[e,hdl,hq,show(x::(q++[y]))=(x::q)++[y]from rfl,Di];simp[dI]
     have hA:IntKind.i64.wrap ((s.length:Int)-((nl y).length:Int))=((dI ((x::r).dropLast)).length:Int):=by
      have:=congrArg List.length hcat;rw[length_append]at this
      rw[gS (by omega) (by omega)];omega
     have hA2:(dI ((x::r).dropLast)).length<=s.length:=by
      have:=congrArg List.length hcat;rw[length_append]at this;omega
     have hpy:fP (ie++[32]) y=true:=hpy;simp only[hA]
     show(bif !Ad (y.drop 4)then some (ZJ,(8:Int))else
      dA (0<=((dI ((x::r).dropLast)).length:Int)/\((dI ((x::r).dropLast)).length:Int)<=(s.length:Int)) <|
      call (Ck (List.take (dI ((x::r).dropLast)).length s)) fun r_15 =>
      bif !decide (y.drop 4=r_15)then some (ZJ,14)else
      call (ta (x.drop 8)) fun r_16 =>
      bif !r_16 then some (ZJ,5)else
      bif !decide (eD c=0)then some (ZJ,eD c)else
      bif !decide (eD o=0)then some (ZJ,eD o)else
      bif decide (65536<(s.length:Int))then some (ZJ,4)else
      some (aj.mk (x.drop 8) (bif !decide (eD c=0)then []else c) (bif !decide (eD o=0)then []else o),0))=some (yr (x::r) ⟨x.drop 8,c,o⟩ y)
     unfold yr;rw[hpy];cases Ad (y.drop 4)
     .rfl
     simp only[Bool.not_true,cond_false,Bool.or_self]
     have htk:List.take (dI ((x::r).dropLast)).length s=dI ((x::r).dropLast):=by rw[hcat,take_left]
     rw[zg (by omega),htk,Rk,ze,DZ,ze]
     have hcm:decide (fY (dI ((x::r).dropLast))=y.drop 4)=decide (y.drop 4=fY (dI ((x::r).dropLast))):=by
      rw[Bool.eq_iff_iff,decide_eq_true_eq,decide_eq_true_eq];exact eq_comm
     rw[hcm];cases decide (y.drop 4=fY (dI ((x::r).dropLast)))
     .rfl
     simp only[Bool.not_true,cond_false];unfold xo eJ;cases eS (x.drop 8)
     .rfl
     simp only[Bool.not_true,cond_false];rw[<-e];cases hc:decide (eD c=0)
     .simp only[Bool.not_false,cond_true,cond_false,hc]
     simp only[Bool.not_true,cond_true,cond_false];cases ho:decide (eD o=0)
     .simp only[Bool.not_false,cond_true]
     simp only[Bool.not_true,cond_false]
     cases decide (65536<(s.length:Int)) <;> rfl
  .rw[show decide (0<((List.map nl (y'::z)).length:Int))=true from decide_eq_true (by simp)]
   simp only[Bool.or_true,Bool.true_or,cond_true]
   cases decide (t=[]) <;> rfl
theorem LN(s:dy)(hs:s.length<=4194304):∃L t,zR 10 s=L++[t]/\s=dI L++t/\(∀x∈L,(10:UInt8)∉x)/\(10:UInt8)∉t/\AH s=some (PJ L t):=by
 obtain⟨L,t,h1,h2,h3,h4⟩:=EH s.length s (Nat.le_refl _);exact⟨L,t,h1,h2,h3,h4,BX s hs h1 h2 h3 fun id c o r2 s1 s2 hex=>tm s hs h2 h3 id c o r2 s1 s2 hex⟩
theorem gx{e:Int}{j:aj}(he:e≠0)(h:((ZJ,e):aj×Int)=(j,0)):False:=he (congrArg Prod.snd h)
theorem kY{j j':aj}{n:Nat}(h:xo j n=(j',0)):j'=j:=by
 unfold xo at h;cases hn:eS j.F
 .rw[hn]at h;exact(gx (by decide) h).elim
 rw[hn]at h;simp only[Bool.not_true,cond_false]at h;cases he:decide (eJ j=0)
 .rw[he]at h
  exact(gx (of_decide_eq_false he) h).elim
 rw[he]at h;simp only[Bool.not_true,cond_false]at h;cases hd:decide (65536<(n:Int))
 .rw[hd]at h;exact(congrArg Prod.fst h).symm
 .rw[hd]at h;exact(gx (by decide) h).elim
theorem BZ{L:List dy}{t:dy}{j:aj}(h:PJ L t=(j,0)):t=[]/\fh j=dI L:=by
 unfold PJ at h;cases ht:decide (t=[])
 .rw[ht]at h;exact(gx (by decide) h).elim
 rw[ht]at h;refine⟨of_decide_eq_true ht,?_⟩;simp only[Bool.not_true,cond_false]at h
 cases L with
 |nil=>exact(gx (by decide) h).elim
 |cons x r =>
 simp only at h;cases hp:fP (wJou++[32]) x
 .rw[hp]at h;exact(gx (by decide) h).elim
 rw[hp]at h;simp only[Bool.not_true,cond_false]at h
 cases h1:fl ic r with
 |none=>rw[h1]at h;exact(gx (by decide) h).elim
 |some q =>
 obtain⟨c,r1⟩:=q;rw[h1]at h;have h:C3 (x::r) (x.drop 8) c (fl fZ r1)=(j,0):=h
 cases h2:fl fZ r1 with
 |none=>rw[h2]at h;exact(gx (by decide) h).elim
 |some q =>
 obtain⟨o,r2⟩:=q;rw[h2]at h
 rcases r2 with _|⟨y,_|⟨z,r2⟩⟩
 .exact(gx (by decide) h).elim
 .have h:yr (x::r) ⟨x.drop 8,c,o⟩ y=(j,0):=h
  unfold yr at h;cases hy:fP (ie++[32]) y
  .rw[hy]at h;exact(gx (by decide) h).elim
  rw[hy]at h;cases hS:Ad (y.drop 4)
  .rw[hS]at h;exact(gx (by decide) h).elim
  rw[hS]at h;simp only[Bool.not_true,Bool.or_self,cond_false]at h;cases hs:decide (fY (dI ((x::r).dropLast))=y.drop 4)
  .rw[hs]at h;exact(gx (by decide) h).elim
  rw[hs]at h;rw[kY h];exact qG hp h1 h2 hy (of_decide_eq_true hs)
 .exact(gx (by decide) h).elim
theorem QT:∀(l:List ae),(∀c∈l,eCh c=0)->j5 (l.map iN)=some l
 |[],_=>rfl
 |c::l,h=>by
  rw[map_cons];unfold j5;rw[(NV c (h c (mem_cons_self ..))).1,QT l fun d hd=>h d (mem_cons_of_mem _ hd)]
theorem k8:∀(l:List ae),dI (l.map iN)=gg l
 |[]=>rfl
 |c::l=>by rw[map_cons,p7,k8 l,Gy];simp
def pR(w:dy)(l:List ae):List dy:=(w++32::Go.Lib.itoa (l.length:Int))::l.map iN
theorem Q2(w:dy)(l:List ae)(r:List dy)(h:∀c∈l,eCh c=0)(hn:l.length<=4194304):fl w (pR w l++r)=some (l,r):=by
 have hd:(w++32::Go.Lib.itoa (l.length:Int)).drop (w++[32]).length=Go.Lib.decDigits l.length:=by
  rw[show w++32::Go.Lib.itoa (l.length:Int)=(w++[32])++Go.Lib.itoa (l.length:Int)by simp,drop_left,La (by omega),Int.toNat_natCast]
 have hv:=(dd l.length).vl
 have hc:fv w (w++32::Go.Lib.itoa (l.length:Int))=l.length:=by unfold fv;rw[hd,hv]
 unfold pR;rw[cons_append,Cp,hc]
 have hp:fP (w++[32]) (w++32::Go.Lib.itoa (l.length:Int))=true:=by
  unfold fP;rw[show w++32::Go.Lib.itoa (l.length:Int)=(w++[32])++Go.Lib.itoa (l.length:Int)by simp,take_left];exact decide_eq_true rfl
 have ho:nR w (w++32::Go.Lib.itoa (l.length:Int)) (l.map iN++r).length=true:=by
  unfold nR;rw[hp,hd,hv,Ba (n:=8) (by omega),decide_eq_true (by simp)];rfl
 rw[ho,cond_true,take_left' (by simp),drop_left' (by simp),QT l h];rfl
theorem Fl:∀m:Fin 16,tY (dg m.val)=true:=by decide
theorem xf:∀(k n:Nat),(hx k n).all tY=true
 |0,_=>rfl
 |k+1,n=>by
  unfold hx;rw[all_append,xf k,all_cons,all_nil,Fl ⟨n % 16,Nat.mod_lt _ (by decide)⟩];rfl
theorem tz(s:dy):Ad (fY s)=true:=by
 unfold Ad;rw[show(fY s).all tY=true from xf _ _,Il];rfl
def uS(j:aj):List dy:=(wJou++32::j.F)::(pR ic j.A++(pR fZ j.G++[ie++32::fY (gu j)]))
theorem QE(w:dy)(l:List ae):dI (pR w l)=pO w l:=by
 unfold pR pO;rw[p7,k8];simp
theorem Oa(j:aj):dI (uS j)=fh j/\dI (uS j).dropLast=gu j:=by
 have hd:(uS j).dropLast=(wJou++32::j.F)::(pR ic j.A++pR fZ j.G):=by
  unfold uS;rw[<-append_assoc,<-cons_append,dropLast_concat]
 have hb:dI (uS j).dropLast=gu j:=by
  rw[hd,p7,Di,QE,QE];unfold gu;simp
 refine⟨?_,hb⟩;rw[hd]at hb;unfold fh nv uS;rw[<-append_assoc,<-cons_append,Di,hb];simp[p7,dI,nl]
structure FF(j:aj):Prop where
 name:eS j.F=true
 e:eJ j=0
 len:(fh j).length<=65536
theorem CK{j:aj}(h:(pJ j).2=0):FF j/\pJ j=(fh j,0):=by
 unfold pJ at h|-;cases hn:eS j.F
 .rw[hn]at h;cases h
 rw[hn]at h;simp only[Bool.not_true,cond_false]at h|-;cases he:decide (eJ j=0)
 .rw[he]at h
  exact absurd h (of_decide_eq_false he)
 rw[he]at h;simp only[Bool.not_true,cond_false]at h|-;cases hd:decide (65536<((fh j).length:Int))
 .exact⟨⟨hn,of_decide_eq_true he,by have:=of_decide_eq_false hd;omega⟩,rfl⟩
 .rw[hd]at h;cases h
theorem sA{j:aj}(h:eJ j=0):eD j.A=0/\eD j.G=0:=by
 unfold eJ at h;cases e1:decide (eD j.A=0)
 .rw[e1,cond_false]at h;exact absurd h (of_decide_eq_false e1)
 .rw[e1,cond_true]at h;exact⟨of_decide_eq_true e1,h⟩
theorem pH(j:aj)(h:FF j)(n1:j.A.length<=4194304)(n2:j.G.length<=4194304):PJ (uS j) []=(j,0):=by
 obtain⟨z1,z2⟩:=sA h.e;have hc:=Oa j;unfold PJ;rw[decide_eq_true (rfl:([]:dy)=[])];simp only[Bool.not_true,cond_false]
 have hr1:fl ic (pR ic j.A++(pR fZ j.G++[ie++32::fY (gu j)]))=some (j.A,pR fZ j.G++[ie++32::fY (gu j)]) :=
  Q2 _ _ _ (fun c hc=>Gb z1 c hc) n1
 have hr2:fl fZ (pR fZ j.G++[ie++32::fY (gu j)])=some (j.G,[ie++32::fY (gu j)]) :=
  Q2 _ _ _ (fun c hc=>Gb z2 c hc) n2
 have hp:fP (wJou++[32]) (wJou++32::j.F)=true:=by
  unfold fP;rw[show wJou++32::j.F=(wJou++[32])++j.F by simp,take_left];exact decide_eq_true rfl
 have hp2:fP (ie++[32]) (ie++32::fY (gu j))=true:=by
  unfold fP;rw[show ie++32::fY (gu j)=(ie++[32])++fY (gu j)by simp,take_left];exact decide_eq_true rfl
 have hd:(ie++32::fY (gu j)).drop 4=fY (gu j):=by
  rw[show ie++32::fY (gu j)=(ie++[32])++fY (gu j)by simp];exact drop_left' rfl
 have hd8:(wJou++32::j.F).drop 8=j.F:=by
  rw[show wJou++32::j.F=(wJou++[32])++j.F by simp];exact drop_left' rfl
 have hL:uS j=(wJou++32::j.F)::(pR ic j.A++(pR fZ j.G++[ie++32::fY (gu j)])):=rfl;rw[hL]at hc|-;simp only;rw[hp,hr1,hd8];simp only[Bool.not_true,cond_false]
 show C3 _ j.F j.A (fl fZ (pR fZ j.G++[ie++32::fY (gu j)]))=_
 rw[hr2]
 show yr _ ⟨j.F,j.A,j.G⟩ (ie++32::fY (gu j))=_
 unfold yr;rw[hp2,hd,tz,hc.2,decide_eq_true rfl,hc.1];simp only[Bool.not_true,Bool.or_self,cond_false];unfold xo;rw[h.name,decide_eq_true h.e,decide_eq_false (show ¬ (65536:Int)<((fh j).length:Int)from by have:=h.len;omega)];rfl
theorem r8{w:dy}(hw:(10:UInt8)∉w){n:Nat}(hn:n<=4194304):(10:UInt8)∉w++32::Go.Lib.itoa (n:Int):=by
 rw[La (by omega)];intro hm
 rcases mem_append.1 hm with hm|hm
 .exact hw hm
 .rcases mem_cons.1 hm with hm|hm
  .cases hm
  .exact(BE (dd _).dig).2.1 hm
theorem od(j:aj)(h:FF j)(n1:j.A.length<=4194304)(n2:j.G.length<=4194304):∀x∈uS j,(10:UInt8)∉x:=by
 obtain⟨z1,z2⟩:=sA h.e;intro x hx;unfold uS pR at hx;simp only[mem_cons,mem_append,mem_map,not_mem_nil,or_false]at hx
 rcases hx with rfl|(rfl|⟨c,hc,rfl⟩)|(rfl|⟨c,hc,rfl⟩)|rfl
 .intro hm
  rcases mem_append.1 hm with hm|hm
  .exact absurd hm (by decide)
  .rcases mem_cons.1 hm with hm|hm
   .cases hm
   .exact Hx h.name (by decide) hm
 .exact r8 (by decide) n1
 .exact(NV c (Gb z1 c hc)).2
 .exact r8 (by decide) n2
 .exact(NV c (Gb z2 c hc)).2
 .intro hm
  rcases mem_append.1 hm with hm|hm
  .exact absurd hm (by decide)
  .rcases mem_cons.1 hm with hm|hm
   .cases hm
   .exact Ew _ hm
theorem qL(j:aj)(h:FF j)(n1:j.A.length<=4194304)(n2:j.G.length<=4194304):AH (fh j)=some (j,0):=by
 obtain⟨L,t,h1,_,_,_,h5⟩:=LN (fh j) (by have:=h.len;omega);have h6:=NS (uS j) (od j h n1 n2);rw[(Oa j).1,h1]at h6;obtain⟨rfl,e⟩:=append_inj' h6 rfl;cases e;rw[h5,pH j h n1 n2]
theorem tJ(j:aj):fh j=gu j++(ie++32::(fY (gu j)++[10])):=rfl
theorem nj:∀a b:dy,ls a b=decide (a<b)
 |[],[]=>by simp[ls,Op.bytesLess]
 |_::_,[]=>by simp[ls,Op.bytesLess]
 |[],_::_=>by simp[ls,Op.bytesLess]
 |a::x,b::y=>by
  have ih:=nj x y;unfold ls at *;rw[Op.bytesLess,ih,Bool.eq_iff_iff];simp[cons_lt_cons_iff]
theorem Ch{a b c:dy}(h1:a<b)(h2:b<c):a<c:=List.lt_trans h1 h2
theorem FS(a:dy):¬ a<a:=List.lt_irrefl a
theorem B6(a b:dy):a<b∨a=b∨b<a:=by
 by_cases h1:a<b
 .exact .inl h1
 .by_cases h2:b<a
  .exact .inr (.inr h2)
  .exact .inr (.inl (List.le_antisymm (List.not_lt.1 h2) (List.not_lt.1 h1)))
theorem yR{a b:dy}(h1:a<b):¬ b<a:=fun h2=>FS a (Ch h1 h2)
theorem ro{a b:dy}(h1:a<b):a≠b:=fun e=>FS b (e ▸ h1)
theorem Ga:∀a b:dy,(iJ a b<0↔a<b)/\(iJ a b=0↔a=b)
 |[],[]=>by simp[iJ,Lib.compareBytes]
 |_::_,[]=>by simp[iJ,Lib.compareBytes]
 |[],_::_=>by simp[iJ,Lib.compareBytes]
 |a::x,b::y=>by
  have ih:=Ga x y;unfold iJ at *;rw[Lib.compareBytes,cons_lt_cons_iff]
  by_cases h:a<b
  .have:a≠b:=fun e=>by subst e;exact UInt8.lt_irrefl _ h
   simp[h,this]
  .by_cases h2:b<a
   .have:a≠b:=fun e=>by subst e;exact UInt8.lt_irrefl _ h2
    simp[h,h2,this]
   .have:a=b:=UInt8.le_antisymm (UInt8.not_lt.1 h2) (UInt8.not_lt.1 h)
    subst this
    simpa [h]using ih
theorem Dj(a b:dy):decide (iJ a b<0)=decide (a<b):=decide_eq_decide.2 (Ga a b).1
theorem mB(a b:dy):0<iJ a b↔b<a:=by
 have h:=Ga a b
 rcases B6 a b with h1|h1|h1
 .have:=h.1.2 h1
  exact⟨fun h'=>by omega,fun h'=>absurd h' (yR h1)⟩
 .have:=h.2.2 h1
  exact⟨fun h'=>by omega,fun h'=>absurd h1 (Ne.symm (ro h'))⟩
 .refine⟨fun _=>h1,fun _=>?_⟩
  have h2:¬ iJ a b<0:=fun h'=>yR h1 (h.1.1 h')
  have h3:¬ iJ a b=0:=fun h'=>(ro h1) (h.2.1 h').symm
  omega
theorem AW(a b:dy)(hb:b≠[]):a<a++b:=by
 induction a with
 |nil=>cases b with
  |nil=>exact absurd rfl hb
  |cons x b=>simp
 |cons x a ih=>rw[cons_append,cons_lt_cons_iff];exact .inr ⟨rfl,ih⟩
section
variable {K V:Type} [DecidableEq K]
theorem yg{m:List (K×V)}{p:K×V}{k:K}(h:¬ p.1=k):zG (p::m) k=zG m k:=by rw[zG,decide_eq_false h];rfl
theorem yh{m:List (K×V)}{p:K×V}{k:K}(h:p.1=k):zG (p::m) k=some p.2:=by rw[zG,decide_eq_true h];rfl
theorem sJ{m:List (K×V)}{p:K×V}{k:K}{v:V}(h:¬ p.1=k):dF (p::m) k v=p::dF m k v:=by rw[dF,decide_eq_false h];rfl
theorem sK{m:List (K×V)}{p:K×V}{k:K}{v:V}(h:p.1=k):dF (p::m) k v=(k,v)::m:=by rw[dF,decide_eq_true h];rfl
theorem u0:∀(m:List (K×V)) (k:K) (v:V) (k':K),zG (dF m k v) k'=if k=k' then some v else zG m k'
 |[],k,v,k'=>by
  simp only[dF,zG]
  by_cases h:k=k' <;> simp[h]
 |p::m,k,v,k'=>by
  unfold dF
  by_cases h:p.1=k
  .rw[decide_eq_true h,cond_true]
   simp only[zG]
   by_cases h':k=k'
   .simp[h']
   .have:¬ p.1=k':=fun e=>h' (h ▸ e)
    simp[h',this]
  .rw[decide_eq_false h,cond_false]
   simp only[zG];rw[u0 m k v k']
   by_cases h':k=k'
   .have:¬ p.1=k':=fun e=>h (e.trans h'.symm)
    simp[h',this]
   .simp only[if_neg h']
theorem alook_none:∀{m:List (K×V)} {k:K},zG m k=none↔k∉m.map (·.1)
 |[],k=>by simp[zG]
 |p::m,k=>by
  simp only[zG,map_cons,mem_cons]
  by_cases h:p.1=k
  .simp[h]
  .rw[decide_eq_false h,cond_false,alook_none]
   simp[Ne.symm h]
theorem mem_keys{m:List (K×V)}{k:K}:k∈m.map (·.1)↔(zG m k).isSome=true:=by
 have:=@alook_none K V _ m k
 cases h:zG m k with
 |none=>simpa using this.1 h
 |some v =>
  simp only[Option.isSome_some,iff_true]
  refine Classical.byContradiction fun hc=>?_
  rw[this.2 hc]at h;cases h
theorem Lx:∀{m:List (K×V)} {k:K} {v:V},zG m k=some v->(k,v)∈m
 |[],k,v,h=>by cases h
 |p::m,k,v,h=>by
  simp only[zG]at h
  by_cases e:p.1=k
  .rw[decide_eq_true e,cond_true]at h
   cases h;subst e;exact mem_cons_self ..
  .rw[decide_eq_false e,cond_false]at h
   exact mem_cons_of_mem _ (Lx h)
theorem kD:∀{m:List (K×V)},(m.map (·.1)).Nodup->∀{p:K×V},p∈m->zG m p.1=some p.2
 |q::m,hn,p,hp=>by
  have hn':=nodup_cons.1 hn;simp only[zG]
  rcases mem_cons.1 hp with rfl|hp
  .simp
  .have:¬ q.1=p.1:=fun e=>hn'.1 (by show q.1∈_;rw[e];exact mem_map_of_mem hp)
   rw[decide_eq_false this,cond_false];exact kD hn'.2 hp
theorem HW:∀(m:List (K×V)) (k:K) (v:V),(dF m k v).map (·.1)=m.map (·.1)++if (zG m k).isSome then []else [k]
 |[],k,v=>by simp[dF,zG]
 |p::m,k,v=>by
  by_cases h:p.1=k
  .rw[sK h,yh h];simp[h]
  .rw[sJ h,yg h,map_cons,HW m k v];rfl
theorem Az{m:List (K×V)}(h:(m.map (·.1)).Nodup)(k:K)(v:V):((dF m k v).map (·.1)).Nodup:=by
 rw[HW];split
 .simpa using h
 .rename_i hs
  have:k∉m.map (·.1):=fun hk=>hs (mem_keys.1 hk)
  rw[nodup_append];exact⟨h,by simp,fun a ha b hb e=>by simp at hb;subst hb;subst e;exact this ha⟩
theorem Am(m:List (K×V))(k:K)(v:V):(dF m k v).length=m.length+if (zG m k).isSome then 0 else 1:=by
 have:=congrArg List.length (HW m k v);simp only[length_map,length_append]at this;rw[this]
 split <;> simp
theorem li:∀(m:List (K×V)) (k:K),((fC m k).map (·.1)).Sublist (m.map (·.1))
 |[],k=>by simp[fC]
 |p::m,k=>by
  simp only[fC]
  by_cases h:p.1=k
  .simp[h]
  .rw[decide_eq_false h,cond_false]
   exact(li m k).cons_cons _
theorem DK{m:List (K×V)}(h:(m.map (·.1)).Nodup)(k:K):((fC m k).map (·.1)).Nodup:=h.sublist (li m k)
theorem Cj:∀{m:List (K×V)},(m.map (·.1)).Nodup->∀(k k':K),zG (fC m k) k'=if k=k' then none else zG m k'
 |[],_,k,k'=>by simp[fC,zG]
 |p::m,hn,k,k'=>by
  have hn':=nodup_cons.1 hn;simp only[fC]
  by_cases h:p.1=k
  .rw[decide_eq_true h,cond_true]
   by_cases h':k=k'
   .rw[if_pos h',alook_none.2]
    rw[<-h',<-h];exact hn'.1
   .rw[if_neg h']
    have:¬ p.1=k':=fun e=>h' (h ▸ e)
    simp only[zG];rw[decide_eq_false this,cond_false]
  .rw[decide_eq_false h,cond_false]
   simp only[zG];rw[Cj hn'.2]
   by_cases h':k=k'
   .have:¬ p.1=k':=fun e=>h (e.trans h'.symm)
    simp[h',this]
   .simp only[if_neg h']
end
section
variable {α S β:Type}
theorem KZ{f:α->S->(S->Option β)->(S->Option β)->Option β}{k:S->Option β}{z:β}(inv:List α->S->Prop)
  (h0:∀s,inv [] s->k s=some z) (h1:∀r s nx x j,inv r s->r[j]?=some x->(∀s',inv (r.eraseIdx j) s'->nx s'=some z)->f x s nx k=some z) :
  ∀(n:Nat) (r:List α) (s:S),r.length=n->inv r s->forM f n r s k=some z
 |0,[],s,_,h=>h0 s h
 |n+1,r,s,hn,h=>by
  unfold Go.Vc.forM
  refine Oq ⟨0,by omega⟩ fun j hj=>?_
  rw[getElem?_eq_getElem hj]
  exact h1 r s _ r[j] j h (getElem?_eq_getElem hj) fun s' hs=>KZ inv h0 h1 n (r.eraseIdx j) s' (by rw[length_eraseIdx,if_pos hj];omega) hs
theorem L8:∀{r:List α} {j:Nat} {x:α},r[j]?=some x->r.Perm (x::r.eraseIdx j)
 |[],_,_,h=>by cases h
 |y::r,0,x,h=>by
  simp at h;subst h;simp
 |y::r,j+1,x,h=>by
  simp only[getElem?_cons_succ]at h;rw[eraseIdx_cons_succ];exact((L8 h).cons y).trans (.swap x y _)
end
theorem NR(a b c:dy)(h1:decide (a<=b)=true)(h2:decide (b<=c)=true):decide (a<=c)=true:=by
 simp only[decide_eq_true_eq]at *;exact List.le_trans h1 h2
theorem NQ(a b:dy):(decide (a<=b)||decide (b<=a))=true:=by
 simp only[Bool.or_eq_true,decide_eq_true_eq];exact List.le_total a b
theorem Ol(l:List dy):(sortS l).Perm l:=mergeSort_perm l _
theorem Sx{l l':List dy}(h:l.Perm l'):sortS l=sortS l':=by
 unfold sortS;refine List.Perm.eq_of_pairwise (le:=fun a b=>decide (a<=b)=true) (fun a b _ _ h1 h2=>?_) (pairwise_mergeSort NR NQ l) (pairwise_mergeSort NR NQ l') (((mergeSort_perm l _).trans h).trans (mergeSort_perm l' _).symm);simp only[decide_eq_true_eq]at h1 h2;exact List.le_antisymm h1 h2
theorem v6{l:List dy}(h:l.Nodup):(sortS l).Pairwise (·<·):=by
 have h1:(sortS l).Pairwise fun a b=>decide (a<=b)=true:=pairwise_mergeSort NR NQ l
 have h2:(sortS l).Pairwise (·≠·):=(Ol l).symm.nodup h;refine List.Pairwise.imp₂ (fun a b h3 h4=>?_) h1 h2;simp only[decide_eq_true_eq]at h3
 rcases B6 a b with h|h|h
 .exact h
 .exact absurd h h4
 .exact absurd h3 (List.not_le.2 h)
section
variable {V A:Type}
def jv(m:List (dy×V)):List dy:=sortS (m.map (·.1))
theorem mem_keysM{m:List (dy×V)}{k:dy}:k∈jv m↔(zG m k).isSome=true:=by
 unfold jv;rw[(Ol _).mem_iff,mem_keys]
theorem kK(m:List (dy×V)):(jv m).length=m.length:=by
 unfold jv;rw[(Ol _).length_eq,length_map]
theorem NA(m:List (dy×V))(h:m.length<=274877906944) :
  forM (fun(e:dy×V) (o:List dy) nx _=>dA ((o++[e.1]).length<=274877906944) (nx (o++[e.1]))) m.length m [] (fun o=>some (sortS o))=some (jv m):=by
 refine KZ (fun r o=>(o++r.map (·.1)).Perm (m.map (·.1))) (fun o ho=>?_) (fun r o nx x j ho hx hnx=>?_) _ _ _ rfl (by simp)
 .simp only[map_nil,append_nil]at ho
  unfold jv;rw[Sx ho]
 .have hp:=(L8 hx).map (·.1)
  have hq:((o++[x.1])++(r.eraseIdx j).map (·.1)).Perm (m.map (·.1)):=by
   refine List.Perm.trans ?_ ho;rw[append_assoc];exact(List.Perm.append_left o hp).symm
  have hl:=hq.length_eq;simp only[length_append,length_map]at hl;rw[zg (by simp only[length_append];omega)];exact hnx _ hq
def dU(key:A->dy)(l:List A):Prop:=l.Pairwise fun a b=>key a<key b
def lk(key:A->dy)(l:List A)(k:dy):Option A:=l.find? fun x=>decide (key x=k)
variable {key:A->dy}
theorem jE{l:List A}{k:dy}{x:A}(h:lk key l k=some x):x∈l/\key x=k:=by
 unfold lk at h;exact⟨mem_of_find?_eq_some h,by simpa using find?_some h⟩
theorem rG{l:List A}(hs:dU key l){x y:A}(hx:x∈l)(hy:y∈l)(h:key x=key y):x=y:=by
 induction l with
 |nil=>cases hx
 |cons z l ih =>
  have hs':=pairwise_cons.1 hs
  rcases mem_cons.1 hx with e|hx' <;> rcases mem_cons.1 hy with e'|hy'
  .rw[e,e']
  .subst e;exact absurd h (ro (hs'.1 y hy'))
  .subst e';exact absurd h.symm (ro (hs'.1 x hx'))
  .exact ih hs'.2 hx' hy'
theorem vk{l:List A}(hs:dU key l){x:A}(hx:x∈l):lk key l (key x)=some x:=by
 cases h:lk key l (key x)with
 |none =>
  unfold lk at h;have:=find?_eq_none.1 h x hx;simp at this
 |some y =>
  obtain⟨h1,h2⟩:=jE h;rw[rG hs h1 hx h2]
theorem lk_none{l:List A}{k:dy}:lk key l k=none↔∀x∈l,key x≠k:=by
 unfold lk;simp
theorem Gf{l:List A}(hs:dU key l):l.Nodup:=List.Pairwise.imp (R:=fun a b=>key a<key b) (S:=fun a b=>a≠b) (fun h e=>by subst e;exact FS _ h) hs
theorem Dn{l l':List A}(h:dU key l)(h':dU key l')(he:∀k,lk key l k=lk key l' k):l=l':=by
 have hm:∀x,x∈l↔x∈l':=fun x=>⟨fun hx=>(jE ((he _).symm.trans (vk h hx))).1,fun hx=>(jE ((he _).trans (vk h' hx))).1⟩
 exact List.Perm.eq_of_pairwise (fun a b _ _ h1 h2=>absurd h2 (yR h1)) h h' ((perm_ext_iff_of_nodup (Gf h) (Gf h')).2 hm)
def im(g:dy->V->A)(d:V)(m:List (dy×V)):List A:=(jv m).map fun k=>g k ((zG m k).getD d)
theorem FU(g:dy->V->A)(d:V)(m:List (dy×V)):(im g d m).length=m.length:=by
 unfold im;rw[length_map,kK]
theorem Dq{g:dy->V->A}{d:V}{m:List (dy×V)}(hn:(m.map (·.1)).Nodup)(hk:∀k v,zG m k=some v->key (g k v)=k):dU key (im g d m):=by
 unfold dU im;rw[pairwise_map]
 refine(v6 hn).imp_of_mem fun {a b} ha hb h=>?_
 have ha':=mem_keysM.1 (show a∈jv m from ha);have hb':=mem_keysM.1 (show b∈jv m from hb);obtain⟨v,hv⟩:=Option.isSome_iff_exists.1 ha';obtain⟨w,hw⟩:=Option.isSome_iff_exists.1 hb';rw[hv,hw,Option.getD_some,Option.getD_some,hk _ _ hv,hk _ _ hw];exact h
theorem vi{g:dy->V->A}{d:V}{m:List (dy×V)}(hk:∀k v,zG m k=some v->key (g k v)=k)(k:dy):lk key (im g d m) k=(zG m k).map (g k):=by
 have h1:∀k'∈jv m,∃v,zG m k'=some v/\key (g k' ((zG m k').getD d))=k':=fun k' h=>by
  obtain⟨v,hv⟩:=Option.isSome_iff_exists.1 (mem_keysM.1 h);exact⟨v,hv,by rw[hv,Option.getD_some,hk _ _ hv]⟩
 cases h:zG m k with
 |none =>
  rw[Option.map_none,lk_none];intro x hx;obtain⟨k',hk',rfl⟩:=mem_map.1 hx;obtain⟨v,hv,he⟩:=h1 k' hk';rw[he];rintro rfl
  rw[h]at hv;cases hv
 |some v =>
  have hm:k∈jv m:=mem_keysM.2 (by rw[h];rfl)
  cases hl:lk key (im g d m) k with
  |none =>
   have:=lk_none.1 hl _ (mem_map_of_mem hm);obtain⟨v',hv,he⟩:=h1 k hm;exact absurd he this
  |some x =>
   obtain⟨h2,h3⟩:=jE hl;obtain⟨k',hk',rfl⟩:=mem_map.1 h2;obtain⟨v',hv,he⟩:=h1 k' hk';rw[he]at h3;subst h3
   rw[h];rfl
def fz(key:A->dy)(x:A)(l:List A):List A:=l.filter (fun y=>decide (key y<key x))++x::l.filter fun y=>decide (key x<key y)
def fW(key:A->dy)(k:dy)(l:List A):List A:=l.filter fun y=>!decide (key y=k)
theorem mem_ins{l:List A}{x y:A}:y∈fz key x l↔y=x∨(y∈l/\key y≠key x):=by
 unfold fz;simp only[mem_append,mem_filter,decide_eq_true_eq,mem_cons];constructor
 .rintro(⟨h1,h2⟩|rfl|⟨h1,h2⟩)
  .exact .inr ⟨h1,ro h2⟩
  .exact .inl rfl
  .exact .inr ⟨h1,Ne.symm (ro h2)⟩
 .rintro(rfl|⟨h1,h2⟩)
  .exact .inr (.inl rfl)
  .rcases B6 (key y) (key x)with h|h|h
   .exact .inl ⟨h1,h⟩
   .exact absurd h h2
   .exact .inr (.inr ⟨h1,h⟩)
theorem mem_del{l:List A}{k:dy}{y:A}:y∈fW key k l↔y∈l/\key y≠k:=by
 unfold fW;simp
theorem yJ{l:List A}(hs:dU key l)(x:A):dU key (fz key x l):=by
 unfold dU fz;rw[pairwise_append,pairwise_cons];refine⟨hs.filter _,⟨fun y hy=>by simpa using (mem_filter.1 hy).2,hs.filter _⟩,fun a ha b hb=>?_⟩
 have h1:key a<key x:=by simpa using (mem_filter.1 ha).2
 rcases mem_cons.1 hb with rfl|hb
 .exact h1
 .exact Ch h1 (by simpa using (mem_filter.1 hb).2)
theorem Aj{l:List A}(hs:dU key l)(k:dy):dU key (fW key k l):=hs.filter _
theorem qU{l:List A}{k:dy}{o:Option A}(hs:dU key l)(h:∀x,o=some x↔x∈l/\key x=k):lk key l k=o:=by
 cases hl:lk key l k with
 |none =>
  cases ho:o with
  |none=>rfl
  |some x =>
   obtain⟨h1,h2⟩:=(h x).1 ho;exact absurd h2 (lk_none.1 hl x h1)
 |some x=>exact((h x).2 (jE hl)).symm
theorem qQ{l:List A}(hs:dU key l){k:dy}{x:A}:lk key l k=some x↔x∈l/\key x=k:=⟨jE,fun h=>by obtain⟨h1,rfl⟩:=h;exact vk hs h1⟩
theorem C9{l:List A}(hs:dU key l)(x:A)(k:dy):lk key (fz key x l) k=if key x=k then some x else lk key l k:=by
 refine qU (yJ hs x) fun y=>?_
 rw[mem_ins];split
 .rename_i h
  subst h;constructor
  .intro h;cases h;exact⟨.inl rfl,rfl⟩
  .rintro⟨rfl|⟨h1,h2⟩,h3⟩
   .rfl
   .exact absurd h3 h2
 .rename_i h
  rw[qQ hs];constructor
  .rintro⟨h1,rfl⟩;exact⟨.inr ⟨h1,fun e=>h e.symm⟩,rfl⟩
  .rintro⟨rfl|⟨h1,h2⟩,h3⟩
   .exact absurd h3 h
   .exact⟨h1,h3⟩
theorem C8{l:List A}(hs:dU key l)(k k':dy):lk key (fW key k l) k'=if k=k' then none else lk key l k':=by
 refine qU (Aj hs k) fun y=>?_
 rw[mem_del];split
 .rename_i h
  subst h;simp only[reduceCtorEq,false_iff];rintro⟨⟨_,h1⟩,h2⟩;exact h1 h2
 .rename_i h
  rw[qQ hs];constructor
  .rintro⟨h1,rfl⟩;exact⟨⟨h1,fun e=>h e.symm⟩,rfl⟩
  .rintro⟨⟨h1,_⟩,h2⟩;exact⟨h1,h2⟩
theorem Hi{l:List A}(hs:dU key l)(k:dy):l.length=(fW key k l).length+if (lk key l k).isSome then 1 else 0:=by
 induction l with
 |nil=>simp[fW,lk]
 |cons x l ih =>
  have hs':=pairwise_cons.1 hs;have ih:=ih hs'.2;unfold fW lk at *
  by_cases h:key x=k
  .have h0:∀y∈l,key y≠k:=fun y hy e=>ro (hs'.1 y hy) (h.trans e.symm)
   have h1:l.find? (fun x=>decide (key x=k))=none:=by simpa using h0
   rw[h1]at ih;simp only[filter_cons,find?_cons,h,decide_true,Bool.not_true,Bool.false_eq_true,if_false,if_true,Option.isSome_some,Option.isSome_none,length_cons]at *;omega
  .simp only[filter_cons,find?_cons,h,decide_false,Bool.not_false,if_true,length_cons]at *
   omega
theorem Dm{l:List A}(hs:dU key l)(x:A):(fz key x l).length=l.length+if (lk key l (key x)).isSome then 0 else 1:=by
 have h1:=Hi (yJ hs x) (key x);rw[C9 hs,if_pos rfl]at h1
 have h2:fW key (key x) (fz key x l)=fW key (key x) l:=by
  refine Dn (Aj (yJ hs x) _) (Aj hs _) fun k=>?_
  rw[C8 (yJ hs x),C8 hs,C9 hs];split
  .rfl
  .rfl
 rw[h2]at h1;have h3:=Hi hs (key x);simp only[Option.isSome_some,if_true]at h1
 split at h3 <;> simp_all <;> omega
theorem F7{g:dy->V->A}{d:V}{m:List (dy×V)}(hn:(m.map (·.1)).Nodup)(hk:∀k v,zG m k=some v->key (g k v)=k)(k:dy)(v:V)(hv:key (g k v)=k) :
  im g d (dF m k v)=fz key (g k v) (im g d m):=by
 have hk':∀k' v',zG (dF m k v) k'=some v'->key (g k' v')=k':=fun k' v' h=>by
  rw[u0]at h;split at h
  .rename_i e;subst e;cases h;exact hv
  .exact hk _ _ h
 refine Dn (Dq (Az hn k v) hk') (yJ (Dq hn hk) _) fun k'=>?_
 rw[vi hk',C9 (Dq hn hk),vi hk,u0,hv];split
 .rename_i e;subst e;rfl
 .rfl
theorem F6{g:dy->V->A}{d:V}{m:List (dy×V)}(hn:(m.map (·.1)).Nodup)(hk:∀k v,zG m k=some v->key (g k v)=k)(k:dy) :
  im g d (fC m k)=fW key k (im g d m):=by
 have hk':∀k' v',zG (fC m k) k'=some v'->key (g k' v')=k':=fun k' v' h=>by
  rw[Cj hn]at h;split at h
  .cases h
  .exact hk _ _ h
 refine Dn (Dq (DK hn k) hk') (Aj (Dq hn hk) _) fun k'=>?_
 rw[vi hk',C8 (Dq hn hk),vi hk,Cj hn]
 split <;> rfl
def ky(key:A->dy)(w:A->V)(l:List A):List (dy×V):=l.map fun x=>(key x,w x)
theorem pp(m:List (dy×V))(k:dy)(v:V)(h:k∉m.map (·.1)):dF m k v=m++[(k,v)]:=by
 induction m with
 |nil=>rfl
 |cons p m ih =>
  have h1:¬ p.1=k:=fun e=>h (by simp[e])
  rw[dF,decide_eq_false h1,cond_false,ih fun h'=>h (by simp at h'|-;exact .inr h')];rfl
theorem nU(w:A->V)(l:List A):(ky key w l).map (·.1)=l.map key:=by simp[ky,Function.comp_def]
theorem Ge{w:A->V}{l:List A}(hs:dU key l):((ky key w l).map (·.1)).Nodup:=by
 rw[nU];exact(pairwise_map.2 (hs.imp fun h=>ro h))
theorem F4{w:A->V}{l:List A}(k:dy):zG (ky key w l) k=(lk key l k).map w:=by
 unfold ky lk
 induction l with
 |nil=>rfl
 |cons x l ih =>
  simp only[map_cons,zG,find?_cons]
  by_cases h:key x=k
  .simp[h]
  .rw[decide_eq_false h,cond_false,ih]
theorem iZ{Z:Type}{w:A->V}{f:Nat->A->List (dy×V)->(List (dy×V)->Option Z)->(List (dy×V)->Option Z)->Option Z}{k:List (dy×V)->Option Z}
  (hf:∀i x m nx k,f i x m nx k=dA ((dF m (key x) (w x)).length<=274877906944) (nx (dF m (key x) (w x)))) {l:List A} (hs:dU key l) (hl:l.length<=274877906944) :
  forL l 0 f [] k=k (ky key w l):=by
 have:∀(a b:List A) (i:Nat),l=a++b->forL b i f (ky key w a) k=k (ky key w l):=by
  intro a b
  induction b generalizing a with
  |nil=>intro i e;rw[append_nil]at e;subst e;rfl
  |cons x b ih =>
   intro i e;unfold forL
   have hx:key x∉(ky key w a).map (·.1):=by
    rw[nU];intro h;obtain⟨y,hy,hyx⟩:=mem_map.1 h;have h1:=hs;unfold dU at h1;rw[e,pairwise_append]at h1;exact ro (h1.2.2 y hy x (mem_cons_self ..)) hyx
   have hap:dF (ky key w a) (key x) (w x)=ky key w (a++[x]):=by
    rw[pp _ _ _ hx];simp[ky]
   rw[hf,hap,zg]
   .exact ih (a++[x]) (i+1) (by rw[e];simp)
   .have:=congrArg List.length e
    simp only[length_append,length_cons]at this;simp only[ky,length_map,length_append,length_cons,length_nil];omega
 exact this [] l 0 rfl
theorem Hs{w:A->V}{g:dy->V->A}{d:V}{l:List A}(hs:dU key l)(hg:∀x∈l,g (key x) (w x)=x):im g d (ky key w l)=l:=by
 have hk:∀k v,zG (ky key w l) k=some v->key (g k v)=k:=fun k v h=>by
  rw[F4]at h;obtain⟨x,hx,rfl⟩:=Option.map_eq_some_iff.1 h;obtain⟨h1,rfl⟩:=jE hx;rw[hg x h1]
 refine Dn (Dq (Ge hs) hk) hs fun k=>?_
 rw[vi hk,F4]
 cases h:lk key l k with
 |none=>rfl
 |some x =>
  obtain⟨h1,rfl⟩:=jE h;simp[hg x h1]
theorem Gw{Z:Type}{g:dy->V->A}{d:V}{m:List (dy×V)}{f:Nat->dy->List A->(List A->Option Z)->(List A->Option Z)->Option Z}{k:List A->Option Z}
  (hf:∀i x o nx k,f i x o nx k=dA ((o++[g x ((zG m x).getD d)]).length<=274877906944) (nx (o++[g x ((zG m x).getD d)]))) (hl:m.length<=274877906944) :
  forL (jv m) 0 f [] k=k (im g d m):=by
 have hk:=kK m
 have:∀(a b:List dy) (i:Nat),jv m=a++b->forL b i f (a.map fun x=>g x ((zG m x).getD d)) k=k (im g d m):=by
  intro a b
  induction b generalizing a with
  |nil=>intro i e;rw[append_nil]at e;unfold im;rw[e];rfl
  |cons x b ih =>
   intro i e;have h0:=congrArg List.length e;simp only[length_append,length_cons]at h0;unfold forL;rw[hf,zg (by simp only[length_append,length_map,length_cons,length_nil];omega)];have:=ih (a++[x]) (i+1) (by rw[e];simp);rw[map_append]at this;exact this
 exact this [] _ 0 rfl
end
def dX(p d:dy):Bool:=decide (p.take (d.length+1)=d++[47])
theorem F8{p d:dy}(h:dX p d=true):∃r,p=d++47::r:=by
 have:=of_decide_eq_true h;refine⟨p.drop (d.length+1),?_⟩
 conv=>lhs;rw[<-take_append_drop (d.length+1) p,this]
 simp
theorem lG(d r:dy):dX (d++47::r) d=true:=by
 unfold dX;rw[decide_eq_true_eq,show d.length+1=(d++[47]).length by simp,show d++47::r=(d++[47])++r by simp,take_left]
theorem lH{p d:dy}(h:dX p d=true):d<p:=by
 obtain⟨r,rfl⟩:=F8 h;exact AW _ _ (by simp)
theorem undB_at{p d:dy}:dX p d=true↔∃i,∃h:i<p.length,p[i]=47/\d=p.take i:=by
 constructor
 .intro h
  obtain⟨r,rfl⟩:=F8 h;exact⟨d.length,by simp,by simp,by simp⟩
 .rintro⟨i,h,h1,rfl⟩
  have:p=p.take i++47::p.drop (i+1):=by
   rw[<-h1,<-drop_eq_getElem_cons h,take_append_drop]
  conv=>lhs;arg 1;rw[this]
  exact lG _ _
theorem Na(p d:dy)(h:d.length<274877906944):Ag p d=some (dX p d):=by
 unfold Ag I2 G9 dX
 have hl:(d++[47]).length=d.length+1:=by simp
 rw[zg (by rw[hl];omega),zg (by intro h;simp only[decide_eq_true_eq]at h;omega)];simp only[ze,hl]
 congr 1
 by_cases hp:d.length+1<=p.length
 .rw[decide_eq_true (by omega:((d.length+1:Nat):Int)<=(p.length:Int)),Bool.true_and]
 .rw[decide_eq_false (by omega),Bool.false_and,eq_comm,decide_eq_false_iff_not]
  intro e;have:=congrArg List.length e;simp only[length_take,hl]at this;omega
theorem MV{α:Type}{q:Nat->α->Bool}:∀(l:List α) (i:Nat),jZ q i l=true↔∀j (h:j<l.length),q (i+j) l[j]=true
 |[],i=>by simp[jZ]
 |x::l,i=>by
  unfold jZ;rw[Bool.and_eq_true,MV l (i+1)];constructor
  .rintro⟨h1,h2⟩ j hj
   cases j with
   |zero=>exact h1
   |succ j=>have:=h2 j (by simpa using hj);rw[show i+(j+1)=i+1+j by omega];exact this
  .intro h
   refine⟨h 0 (by simp),fun j hj=>?_⟩;have:=h (j+1) (by simpa using hj)
   rw[show i+1+j=i+(j+1)by omega];exact this
theorem sT(m:Mp)(p:dy):y2 m p=true↔∀d,dX p d=true->(zG m d).getD false=false:=by
 unfold y2;rw[MV];constructor
 .intro h d hd
  obtain⟨i,hi,h1,rfl⟩:=undB_at.1 hd;have:=h i hi;unfold gM at this;rw[Nat.zero_add,h1]at this
  simpa using this
 .intro h j hj
  unfold gM;rw[Nat.zero_add]
  cases hc:decide ((p[j].toNat:Int)=47)with
  |false=>rfl
  |true =>
   have h1:p[j]=47:=by
    have h2:p[j].toNat=47:=by simp only[decide_eq_true_eq]at hc;omega
    exact UInt8.toNat.inj h2
   rw[h _ (undB_at.2 ⟨j,hj,h1,rfl⟩)];rfl
theorem EL(i:Nat)(a b:dy):ord i a b=(decide (0<i)&&!decide (b<a)):=by
 unfold ord nk;rw[nj]
 congr 1
 .exact decide_eq_decide.2 (by omega)
 .rw[Bool.eq_iff_iff]
  simp only[Bool.or_eq_true,decide_eq_true_eq,Bool.not_eq_true',decide_eq_false_iff_not];constructor
  .rintro(h|rfl)
   .exact yR h
   .exact FS _
  .intro h
   rcases B6 a b with h1|h1|h1
   .exact .inl h1
   .exact .inr h1
   .exact absurd h1 h
section
variable {α:Type} {nm:α->dy}
def Hd(nm:α->dy)(i:Nat)(last:dy):List α->Prop
 |[]=>True
 |x::_=>0<i->last<nm x
theorem nt{x:α}{l:List α}{i:Nat}:dU nm (x::l)↔Hd nm (i+1) (nm x) l/\dU nm l:=by
 unfold dU;rw[pairwise_cons]
 cases l with
 |nil=>simp[Hd]
 |cons y l =>
  simp only[Hd];constructor
  .rintro⟨h1,h2⟩;exact⟨fun _=>h1 y (mem_cons_self ..),h2⟩
  .rintro⟨h1,h2⟩
   refine⟨fun z hz=>?_,h2⟩
   rcases mem_cons.1 hz with rfl|hz
   .exact h1 (by omega)
   .exact Ch (h1 (by omega)) ((pairwise_cons.1 h2).1 z hz)
theorem ord_false{i:Nat}{x:α}{l:List α}{last:dy}:ord i (nm x) last=false↔Hd nm i last (x::l):=by
 rw[EL];simp only[Hd,Bool.and_eq_false_iff,decide_eq_false_iff_not,Bool.not_eq_false',decide_eq_true_eq];constructor
 .rintro(h|h)
  .intro h';exact absurd h' h
  .exact fun _=>h
 .intro h
  by_cases hi:0<i
  .exact .inr (h hi)
  .exact .inl hi
theorem Qh{e:α->Int}:∀(l:List α) (i:Nat) (last:dy),ii e nm i last l=0↔(∀x∈l,e x=0)/\dU nm l/\Hd nm i last l
 |[],i,last=>by simp[ii,dU,Hd]
 |x::l,i,last=>by
  unfold ii
  by_cases h:e x=0
  .rw[decide_eq_true h,Bool.not_true,cond_false]
   cases ho:ord i (nm x) last with
   |true =>
    have:¬ Hd nm i last (x::l):=fun hh=>by rw[ord_false.2 hh]at ho;cases ho
    simp[this]
   |false =>
    have hh:=(ord_false (l:=l)).1 ho;rw[cond_false,Qh l,nt (i:=i)];simp only[mem_cons,forall_eq_or_imp,h,true_and,hh,and_true];constructor
    .rintro⟨h1,h2,h3⟩;exact⟨h1,h3,h2⟩
    .rintro⟨h1,h3,h2⟩;exact⟨h1,h2,h3⟩
  .rw[decide_eq_false h,Bool.not_false,cond_true]
   simp[h]
end
theorem Qe:∀(l:List ab) (i:Nat) (last:dy) (m:Mp),vj i last m l=0 ↔
  (∀x∈l,gc x=0)/\dU (·.a) l/\Hd (·.a) i last l/\(∀x∈l,∀d,dX x.a d=true->(zG m d).getD false=false)/\l.Pairwise fun y x=>dX x.a y.a=false
 |[],i,last,m=>by simp[vj,dU,Hd]
 |x::l,i,last,m=>by
  unfold vj
  by_cases h:gc x=0
  .rw[decide_eq_true h,Bool.not_true,cond_false]
   cases ho:ord i x.a last with
   |true =>
    have:¬ Hd (·.a) i last (x::l):=fun hh=>by rw[(ord_false (nm:=fun x:ab=>x.a)).2 hh]at ho;cases ho
    simp[this]
   |false =>
    have hh:=(ord_false (nm:=fun x:ab=>x.a) (l:=l)).1 ho;rw[cond_false]
    cases ha:y2 m x.a with
    |false =>
     have:¬ ∀d,dX x.a d=true->(zG m d).getD false=false:=fun hh=>by rw[(sT m x.a).2 hh]at ha;cases ha
     rw[Bool.not_false,cond_true];simp[this]
    |true =>
     have ha':=(sT m x.a).1 ha;rw[Bool.not_true,cond_false,Qe l,nt (i:=i),pairwise_cons];simp only[mem_cons,forall_eq_or_imp,h,true_and,hh];constructor
     .rintro⟨h1,h2,h3,h4,h5⟩
      refine⟨h1,⟨h3,h2⟩,⟨ha',fun y hy d hd=>?_⟩,fun y hy=>?_,h5⟩
      .have:=h4 y hy d hd
       rw[u0]at this;split at this
       .cases this
       .exact this
      .cases hu:dX y.a x.a with
       |false=>rfl
       |true =>
        have:=h4 y hy _ hu;rw[u0,if_pos rfl]at this;cases this
     .rintro⟨h1,⟨h3,h2⟩,⟨_,h4⟩,h6,h5⟩
      refine⟨h1,h2,h3,fun y hy d hd=>?_,h5⟩;rw[u0];split
      .rename_i e
       subst e
       rw[h6 y hy]at hd;cases hd
      .exact h4 y hy d hd
  .rw[decide_eq_false h,Bool.not_false,cond_true]
   simp[h]
structure Good(m:ah):Prop where
 c1:m.y.length<=100
 c2:m.h.length<=2000
 c3:m.r.length<=2000
 c4:m.o.length<=100
 f1:∀x∈m.y,uP x=0
 f2:dU (·.k) m.y
 g1:∀x∈m.h,gc x=0
 g2:dU (·.a) m.h
 g3:∀x∈m.h,∀y∈m.h,dX x.a y.a=false
 s1:∀x∈m.r,js x=0
 s2:dU (·.k) m.r
 v1:∀x∈m.o,jL x=0
 v2:dU (·.w) m.o
theorem CT{α:Type}{nm:α->dy}{l:List α}{last:dy}:Hd nm 0 last l:=by
 cases l with
 |nil=>trivial
 |cons x l=>intro h;omega
theorem wE(a b:Int):gy a b=0↔a=0/\b=0:=by
 unfold gy
 by_cases h:a=0
 .simp[h]
 .rw[decide_eq_false h,Bool.not_false,cond_true]
  simp[h]
theorem wo{l:List ab}(hs:dU (·.a) l):(l.Pairwise fun y x=>dX x.a y.a=false)↔∀x∈l,∀y∈l,dX x.a y.a=false:=by
 constructor
 .intro h
  induction l with
  |nil=>intro x hx;cases hx
  |cons z l ih =>
   have hs':=pairwise_cons.1 hs;have h':=pairwise_cons.1 h
   have irr:∀p:dy,dX p p=false:=fun p=>by
    cases hu:dX p p with
    |false=>rfl
    |true=>exact absurd (lH hu) (FS _)
   have asy:∀a b:dy,a<b->dX a b=false:=fun a b hab=>by
    cases hu:dX a b with
    |false=>rfl
    |true=>exact absurd (lH hu) (yR hab)
   intro x hx y hy
   rcases mem_cons.1 hx with e|hx' <;> rcases mem_cons.1 hy with e'|hy'
   .rw[e,e'];exact irr _
   .subst e;exact asy _ _ (hs'.1 y hy')
   .subst e';exact h'.1 x hx'
   .exact ih hs'.2 h'.2 x hx' y hy'
 .intro h
  exact pairwise_iff_forall_sublist.2 fun {a b} hab=>h b (hab.subset (by simp)) a (hab.subset (by simp))
theorem DB(m:ah):Ab m=0↔Good m:=by
 unfold Ab
 cases hB:(((decide (100<(m.y.length:Int)))||(decide (2000<(m.h.length:Int))))||(decide (2000<(m.r.length:Int))))||(decide (100<(m.o.length:Int)))with
 |true =>
  simp only[cond_true];simp only[Bool.or_eq_true,decide_eq_true_eq]at hB;constructor
  .intro h;cases h
  .intro h
   have:=h.c1;have:=h.c2;have:=h.c3;have:=h.c4;omega
 |false =>
  simp only[Bool.or_eq_false_iff,decide_eq_false_iff_not]at hB;simp only[cond_false,wE,Qh,Qe];constructor
  .rintro⟨⟨a1,a2,_⟩,⟨b1,b2,_,_,b3⟩,⟨d1,d2,_⟩,e1,e2,_⟩
   exact⟨by omega,by omega,by omega,by omega,a1,a2,b1,b2,(wo b2).1 b3,d1,d2,e1,e2⟩
  .intro h
   exact⟨⟨h.f1,h.f2,CT⟩,⟨h.g1,h.g2,CT,fun _ _ _ _=>rfl,(wo h.g2).2 h.g3⟩,⟨h.s1,h.s2,CT⟩,h.v1,h.v2,CT⟩
theorem qb{p:dy}(h:eH p=true):p.length<=200:=by
 unfold eH at h;simp only[Bool.and_eq_true,decide_eq_true_eq]at h;omega
theorem rx{f:ab}(h:gc f=0):eH f.a=true/\f.B.length<=65536:=by
 unfold gc at h
 cases hp:eH f.a <;> rw[hp]at h
 .cases h
 .simp only[Bool.not_true,cond_false]at h
  by_cases hd:65536<(f.B.length:Int)
  .rw[decide_eq_true hd]at h;cases h
  .exact⟨rfl,by omega⟩
theorem Lr{s:aa}(h:js s=0):eH s.k=true/\pV s.Value=true:=by
 unfold js at h
 cases hp:eH s.k <;> cases hv:pV s.Value <;> rw[hp,hv]at h <;> first|cases h;done|exact⟨rfl,rfl⟩
theorem LB{s:ai}(h:jL s=0):eS s.w=true/\eH s.a=true:=by
 unfold jL at h
 cases hp:eS s.w <;> cases hv:eH s.a <;> rw[hp,hv]at h <;> first|cases h;done|exact⟨rfl,rfl⟩
theorem Qp{p:dy}(h:eS p=true):p.length<=40:=by
 unfold eS at h;simp only[Bool.and_eq_true,decide_eq_true_eq]at h;omega
theorem na{p:dy}(h:pV p=true):p.length<=1000:=by
 unfold pV at h;simp only[Bool.and_eq_true,decide_eq_true_eq]at h;omega
theorem Good.fit{m:ah}(h:Good m):FG m:=by
 have:=h.c1;have:=h.c2;have:=h.c3;have:=h.c4;refine⟨by omega,by omega,by omega,by omega,fun x hx=>?_,fun x hx=>?_,fun x hx=>?_⟩
 .have:=qb (rx (h.g1 x hx)).1
  unfold Sm;omega
 .have:=qb (Lr (h.s1 x hx)).1
  unfold Sm;omega
 .have:=qb (LB (h.v1 x hx)).2
  unfold Sm;omega
def FM:ah:=⟨[],[],[],[]⟩
abbrev dC(l:List ab)(k:dy):=lk (fun x:ab=>x.a) l k
abbrev gB(l:List aa)(k:dy):=lk (fun x:aa=>x.k) l k
abbrev fD(l:List ai)(k:dy):=lk (fun x:ai=>x.w) l k
def fb(p:dy)(f:ab):Bool:=dX f.a p||dX p f.a
def zY(c:ae)(M:ah):Int×ah :=
 bif !decide (eCh c=0)then(eCh c,M)else
 bif decide (c.u=2)then(bif !(dC M.h c.i.a).isSome then(10,M)else(0,⟨M.y,fW (·.a) c.i.a M.h,M.r,M.o⟩))else
 bif decide (c.u=4)then(bif !(gB M.r c.z.k).isSome then(10,M)else(0,⟨M.y,M.h,fW (·.k) c.z.k M.r,M.o⟩))else
 bif decide (c.u=6)then(bif !(fD M.o c.q.w).isSome then(10,M)else(0,⟨M.y,M.h,M.r,fW (·.w) c.q.w M.o⟩))else
 bif decide (c.u=1)then(bif M.h.any (fb c.i.a)then(11,M)else bif !(dC M.h c.i.a).isSome&&decide (2000<=(M.h.length:Int))then(4,M)else(0,⟨M.y,fz (·.a) c.i M.h,M.r,M.o⟩))else
 bif decide (c.u=3)then(bif !(gB M.r c.z.k).isSome&&decide (2000<=(M.r.length:Int))then(4,M)else(0,⟨M.y,M.h,fz (·.k) c.z M.r,M.o⟩))else
 (bif !(fD M.o c.q.w).isSome&&decide (100<=(M.o.length:Int))then(4,M)else(0,⟨M.y,M.h,M.r,fz (·.w) c.q M.o⟩))
def z6:List ae->ah->ah×Int
 |[],M=>(M,0)
 |c::l,M=>bif !decide ((zY c M).1=0)then(FM,(zY c M).1)else z6 l (zY c M).2
def mH(M:ah)(l:List ae):ah×Int:=bif !decide (Ab M=0)then(FM,Ab M)else z6 l M
theorem lz:(decide ((1:Int)=1)=true/\decide ((1:Int)=2)=false/\decide ((1:Int)=3)=false/\decide ((1:Int)=4)=false/\decide ((1:Int)=5)=false/\decide ((1:Int)=6)=false) /\
  (decide ((2:Int)=1)=false/\decide ((2:Int)=2)=true/\decide ((2:Int)=3)=false/\decide ((2:Int)=4)=false/\decide ((2:Int)=5)=false/\decide ((2:Int)=6)=false) /\
  (decide ((3:Int)=1)=false/\decide ((3:Int)=2)=false/\decide ((3:Int)=3)=true/\decide ((3:Int)=4)=false/\decide ((3:Int)=5)=false/\decide ((3:Int)=6)=false) /\
  (decide ((4:Int)=1)=false/\decide ((4:Int)=2)=false/\decide ((4:Int)=3)=false/\decide ((4:Int)=4)=true/\decide ((4:Int)=5)=false/\decide ((4:Int)=6)=false) /\
  (decide ((5:Int)=1)=false/\decide ((5:Int)=2)=false/\decide ((5:Int)=3)=false/\decide ((5:Int)=4)=false/\decide ((5:Int)=5)=true/\decide ((5:Int)=6)=false) /\
  (decide ((6:Int)=1)=false/\decide ((6:Int)=2)=false/\decide ((6:Int)=3)=false/\decide ((6:Int)=4)=false/\decide ((6:Int)=5)=false/\decide ((6:Int)=6)=true):=by decide
theorem Dx{c:ae}(h:eCh c=0):c.u=1∨c.u=2∨c.u=3∨c.u=4∨c.u=5∨c.u=6:=mc (F1 h).1
theorem KP{c:ae}(h:eCh c=0)(hk:c.u=1):gc c.i=0:=by
 have:=(F1 h).2.1;unfold ju at this;rw[hk]at this;exact this
theorem BB{c:ae}(h:eCh c=0)(hk:c.u=3):js c.z=0:=by
 have:=(F1 h).2.1;unfold ju at this;rw[hk]at this;exact this
theorem BA{c:ae}(h:eCh c=0)(hk:c.u=5):jL c.q=0:=by
 have:=(F1 h).2.1;unfold ju at this;rw[hk]at this;exact this
theorem k7(p:dy):dX p p=false:=by
 cases hu:dX p p with
 |false=>rfl
 |true=>exact absurd (lH hu) (FS _)
theorem mT{M:ah}(h:Good M)(c:ae):Good (zY c M).2:=by
 unfold zY
 by_cases he:eCh c=0
 .rw[decide_eq_true he,Bool.not_true,cond_false]
  have hc1:=h.c1;have hc2:=h.c2;have hc3:=h.c3;have hc4:=h.c4
  rcases Dx he with e|e|e|e|e|e
  all_goals simp only[e,lz,decide_true,cond_true,cond_false]
  .cases ha:M.h.any (fb c.i.a)
   .simp only[cond_false]
    cases hb:!(dC M.h c.i.a).isSome&&decide (2000<=(M.h.length:Int))
    .simp only[cond_false]
     have hcl:∀x∈M.h,dX x.a c.i.a=false/\dX c.i.a x.a=false:=fun x hx=>by
      have:=any_eq_false.1 ha x hx
      simpa [fb]using this
     refine { h with c2:=?_,g1:=?_,g2:=yJ h.g2 _,g3:=?_ }
     .show(fz (fun x:ab=>x.a) c.i M.h).length<=2000
      rw[Dm h.g2];simp only[Bool.and_eq_false_iff,Bool.not_eq_false',decide_eq_false_iff_not]at hb
      rcases hb with hb|hb
      .rw[if_pos hb];omega
      .split <;> omega
     .intro x hx
      rcases mem_ins.1 hx with rfl|⟨hx,_⟩
      .exact KP he e
      .exact h.g1 x hx
     .intro x hx y hy
      rcases mem_ins.1 hx with rfl|⟨hx,_⟩ <;> rcases mem_ins.1 hy with rfl|⟨hy,_⟩
      .exact k7 _
      .exact(hcl y hy).2
      .exact(hcl x hx).1
      .exact h.g3 x hx y hy
    .exact h
   .exact h
  .cases hb:!(dC M.h c.i.a).isSome
   .simp only[cond_false]
    refine { h with c2:=?_,g1:=?_,g2:=Aj h.g2 _,g3:=?_ }
    .have:=Hi h.g2 c.i.a
     show(fW (fun x:ab=>x.a) c.i.a M.h).length<=2000
     omega
    .intro x hx;exact h.g1 x (mem_del.1 hx).1
    .intro x hx y hy;exact h.g3 x (mem_del.1 hx).1 y (mem_del.1 hy).1
   .exact h
  .cases hb:!(gB M.r c.z.k).isSome&&decide (2000<=(M.r.length:Int))
   .simp only[cond_false]
    refine { h with c3:=?_,s1:=?_,s2:=yJ h.s2 _ }
    .show(fz (fun x:aa=>x.k) c.z M.r).length<=2000
     rw[Dm h.s2];simp only[Bool.and_eq_false_iff,Bool.not_eq_false',decide_eq_false_iff_not]at hb
     rcases hb with hb|hb
     .rw[if_pos hb];omega
     .split <;> omega
    .intro x hx
     rcases mem_ins.1 hx with rfl|⟨hx,_⟩
     .exact BB he e
     .exact h.s1 x hx
   .exact h
  .cases hb:!(gB M.r c.z.k).isSome
   .simp only[cond_false]
    refine { h with c3:=?_,s1:=?_,s2:=Aj h.s2 _ }
    .have:=Hi h.s2 c.z.k
     show(fW (fun x:aa=>x.k) c.z.k M.r).length<=2000
     omega
    .intro x hx;exact h.s1 x (mem_del.1 hx).1
   .exact h
  .cases hb:!(fD M.o c.q.w).isSome&&decide (100<=(M.o.length:Int))
   .simp only[cond_false]
    refine { h with c4:=?_,v1:=?_,v2:=yJ h.v2 _ }
    .show(fz (fun x:ai=>x.w) c.q M.o).length<=100
     rw[Dm h.v2];simp only[Bool.and_eq_false_iff,Bool.not_eq_false',decide_eq_false_iff_not]at hb
     rcases hb with hb|hb
     .rw[if_pos hb];omega
     .split <;> omega
    .intro x hx
     rcases mem_ins.1 hx with rfl|⟨hx,_⟩
     .exact BA he e
     .exact h.v1 x hx
   .exact h
  .cases hb:!(fD M.o c.q.w).isSome
   .simp only[cond_false]
    refine { h with c4:=?_,v1:=?_,v2:=Aj h.v2 _ }
    .have:=Hi h.v2 c.q.w
     show(fW (fun x:ai=>x.w) c.q.w M.o).length<=100
     omega
    .intro x hx;exact h.v1 x (mem_del.1 hx).1
   .exact h
 .rw[decide_eq_false he];exact h
abbrev gF:dy->ab->ab:=fun _ v=>v
abbrev gV:dy->ai->ai:=fun _ v=>v
structure Wr(m1:List (dy×ab))(m2:List (dy×dy))(m3:List (dy×ai))(M:ah):Prop where
 n1:(m1.map (·.1)).Nodup
 n2:(m2.map (·.1)).Nodup
 n3:(m3.map (·.1)).Nodup
 k1:∀k v,zG m1 k=some v->v.a=k
 k3:∀k v,zG m3 k=some v->v.w=k
 e1:im gF eE m1=M.h
 e2:im aa.mk [] m2=M.r
 e3:im gV eC m3=M.o
theorem vZ{α:Type}{key:α->dy}{l:List α}(h:dU key l):(l.map key).Nodup:=pairwise_map.2 (List.Pairwise.imp (R:=fun a b=>key a<key b) (fun h=>ro h) h)
theorem NM(l:List aa)(h:l.length<=274877906944):zy l=some l:=by
 unfold zy
 refine Oq ⟨false,fun h=>by cases h⟩ fun b hb=>?_
 cases b with
 |true=>rw[hb rfl];rfl
 |false=>rw[cond_false,zg (by simpa using h)];rfl
theorem On{M:ah}(h:Good M):∃m1 m2 m3,DF M=some (m1,m2,m3,M.y)/\Wr m1 m2 m3 M:=by
 have hc2:=h.c2;have hc3:=h.c3;have hc4:=h.c4;refine⟨ky (·.a) id M.h,ky (·.k) (·.Value) M.r,ky (·.w) id M.o,?_,?_⟩
 .unfold DF
  simp only[dH];refine(iZ (key:=fun x:ab=>x.a) (w:=id) (fun _ _ _ _ _=>rfl) h.g2 (by omega)).trans ?_;refine(iZ (key:=fun x:aa=>x.k) (w:=fun x=>x.Value) (fun _ _ _ _ _=>rfl) h.s2 (by omega)).trans ?_;exact iZ (key:=fun x:ai=>x.w) (w:=id) (fun _ _ _ _ _=>rfl) h.v2 (by omega)
 .refine⟨Ge h.g2,Ge h.s2,Ge h.v2,fun k v hv=>?_,fun k v hv=>?_,Hs h.g2 fun _ _=>rfl,Hs h.s2 fun _ _=>rfl,Hs h.v2 fun _ _=>rfl⟩
  .rw[F4]at hv
   obtain⟨x,hx,rfl⟩:=Option.map_eq_some_iff.1 hv;exact(jE hx).2
  .rw[F4]at hv
   obtain⟨x,hx,rfl⟩:=Option.map_eq_some_iff.1 hv;exact(jE hx).2
section
variable {m1:List (dy×ab)} {m2:List (dy×dy)} {m3:List (dy×ai)} {M:ah}
theorem Wr.l1(h:Wr m1 m2 m3 M):m1.length=M.h.length:=by rw[<-h.e1,FU]
theorem Wr.l2(h:Wr m1 m2 m3 M):m2.length=M.r.length:=by rw[<-h.e2,FU]
theorem Wr.l3(h:Wr m1 m2 m3 M):m3.length=M.o.length:=by rw[<-h.e3,FU]
theorem Wr.look1(h:Wr m1 m2 m3 M)(k:dy):zG m1 k=dC M.h k:=by
 rw[<-h.e1];refine Eq.trans ?_ (vi (key:=fun x:ab=>x.a) (g:=gF) (d:=eE) h.k1 k).symm
 cases zG m1 k <;> rfl
theorem Wr.look2(h:Wr m1 m2 m3 M)(k:dy):(zG m2 k).map (aa.mk k)=gB M.r k:=by
 rw[<-h.e2];exact(vi (key:=fun x:aa=>x.k) (g:=aa.mk) (fun _ _ _=>rfl) k).symm
theorem Wr.look3(h:Wr m1 m2 m3 M)(k:dy):zG m3 k=fD M.o k:=by
 rw[<-h.e3];refine Eq.trans ?_ (vi (key:=fun x:ai=>x.w) (g:=gV) (d:=eC) h.k3 k).symm
 cases zG m3 k <;> rfl
theorem Wr.is2(h:Wr m1 m2 m3 M)(k:dy):(zG m2 k).isSome=(gB M.r k).isSome:=by
 rw[<-h.look2,Option.isSome_map]
theorem Wr.mem1(h:Wr m1 m2 m3 M){p:dy×ab}(hp:p∈m1):p.2∈M.h/\p.2.a=p.1:=by
 have:=kD h.n1 hp;exact⟨(jE ((h.look1 _).symm.trans this)).1,h.k1 _ _ this⟩
theorem Wr.put1(h:Wr m1 m2 m3 M)(f:ab):Wr (dF m1 f.a f) m2 m3 ⟨M.y,fz (·.a) f M.h,M.r,M.o⟩ :=
 { h with
  n1:=Az h.n1 _ _
  k1:=fun k v hv=>by
   rw[u0]at hv;split at hv
   .rename_i e;cases hv;exact e
   .exact h.k1 _ _ hv
  e1:=by rw[<-h.e1];exact F7 (key:=fun x:ab=>x.a) (g:=gF) h.n1 h.k1 _ _ rfl }
theorem Wr.put2(h:Wr m1 m2 m3 M)(f:aa):Wr m1 (dF m2 f.k f.Value) m3 ⟨M.y,M.h,fz (·.k) f M.r,M.o⟩ :=
 { h with
  n2:=Az h.n2 _ _
  e2:=by rw[<-h.e2];exact F7 (key:=fun x:aa=>x.k) (g:=aa.mk) h.n2 (fun _ _ _=>rfl) _ _ rfl }
theorem Wr.put3(h:Wr m1 m2 m3 M)(f:ai):Wr m1 m2 (dF m3 f.w f) ⟨M.y,M.h,M.r,fz (·.w) f M.o⟩ :=
 { h with
  n3:=Az h.n3 _ _
  k3:=fun k v hv=>by
   rw[u0]at hv;split at hv
   .rename_i e;cases hv;exact e
   .exact h.k3 _ _ hv
  e3:=by rw[<-h.e3];exact F7 (key:=fun x:ai=>x.w) (g:=gV) h.n3 h.k3 _ _ rfl }
theorem Wr.del1(h:Wr m1 m2 m3 M)(k:dy):Wr (fC m1 k) m2 m3 ⟨M.y,fW (·.a) k M.h,M.r,M.o⟩ :=
 { h with
  n1:=DK h.n1 _
  k1:=fun k v hv=>by
   rw[Cj h.n1]at hv;split at hv
   .cases hv
   .exact h.k1 _ _ hv
  e1:=by rw[<-h.e1];exact F6 (key:=fun x:ab=>x.a) (g:=gF) h.n1 h.k1 _ }
theorem Wr.del2(h:Wr m1 m2 m3 M)(k:dy):Wr m1 (fC m2 k) m3 ⟨M.y,M.h,fW (·.k) k M.r,M.o⟩ :=
 { h with
  n2:=DK h.n2 _
  e2:=by rw[<-h.e2];exact F6 (key:=fun x:aa=>x.k) (g:=aa.mk) h.n2 (fun _ _ _=>rfl) _ }
theorem Wr.del3(h:Wr m1 m2 m3 M)(k:dy):Wr m1 m2 (fC m3 k) ⟨M.y,M.h,M.r,fW (·.w) k M.o⟩ :=
 { h with
  n3:=DK h.n3 _
  k3:=fun k v hv=>by
   rw[Cj h.n3]at hv;split at hv
   .cases hv
   .exact h.k3 _ _ hv
  e3:=by rw[<-h.e3];exact F6 (key:=fun x:ai=>x.w) (g:=gV) h.n3 h.k3 _ }
theorem Qm(h:Wr m1 m2 m3 M)(hM:Good M):CG M.y m1 m2 m3=some M:=by
 have h1:=h.l1;have h2:=h.l2;have h3:=h.l3;have hc1:=hM.c1;have hc2:=hM.c2;have hc3:=hM.c3;have hc4:=hM.c4;have e1:Mm m1=some (jv m1):=NA m1 (by omega);have e2:Mk m2=some (jv m2):=NA m2 (by omega);have e3:Mq m3=some (jv m3):=NA m3 (by omega);unfold CG;simp only[dH,NM _ (show M.y.length<=274877906944 by omega),ze,e1,e2,e3];refine(Gw (g:=gF) (d:=eE) (m:=m1) (fun _ _ _ _ _=>rfl) (by omega)).trans ?_;refine(Gw (g:=aa.mk) (d:=[]) (m:=m2) (fun _ _ _ _ _=>rfl) (by omega)).trans ?_;refine(Gw (g:=gV) (d:=eC) (m:=m3) (fun _ _ _ _ _=>rfl) (by omega)).trans ?_;rw[h.e1,h.e2,h.e3]
theorem Km(h:Wr m1 m2 m3 M)(hM:Good M)(c:ae)(hc:gZ c)(o:List aa) :
  ∃a b d,Gz c o m1 m2 m3=some ((zY c M).1,a,b,d)/\Wr a b d (zY c M).2:=by
 have h1:=h.l1;have h2:=h.l2;have h3:=h.l3;have hc1:=hM.c1;have hc2:=hM.c2;have hc3:=hM.c3;have hc4:=hM.c4;unfold Gz zY;rw[pD c hc,ze]
 by_cases he:eCh c=0
 .rw[decide_eq_true he,Bool.not_true,cond_false]
  simp only[dH,fj,h.look1,h.look3,h.is2,h1,h2,h3]
  rcases Dx he with e|e|e|e|e|e
  all_goals simp only[e,lz,decide_true,cond_true,cond_false]
  .have hp:=qb (rx (KP he e)).1
   have hfor:∀(X:Int×List (dy×ab)×List (dy×dy)×List (dy×ai)) (k:Unit->Option (Int×List (dy×ab)×List (dy×dy)×List (dy×ai))) (Y:Int×List (dy×ab)×List (dy×dy)×List (dy×ai)),k ()=some Y ->
     forM (fun(e_260:dy×ab) (s:Unit) nx_254 k_253 =>
      call (Ag e_260.1 c.i.a) fun r_262 =>
      callG (!r_262) (Ag c.i.a e_260.1) false fun r_263 =>
      bif (r_262||r_263)then some X else nx_254 ()) M.h.length m1 () k=some (bif M.h.any (fb c.i.a)then X else Y):=by
    intro X k Y hk
    have hany:M.h.any (fb c.i.a)=m1.any fun p=>fb c.i.a p.2:=by
     rw[Bool.eq_iff_iff];simp only[any_eq_true];constructor
     .rintro⟨x,hx,hx'⟩
      exact⟨(x.a,x),Lx ((h.look1 _).trans (vk hM.g2 hx)),hx'⟩
     .rintro⟨p,hp',hx'⟩
      exact⟨p.2,(h.mem1 hp').1,hx'⟩
    rw[hany];refine KZ (fun r _=>(∀p∈r,p∈m1)/\(m1.any fun p=>fb c.i.a p.2)=r.any fun p=>fb c.i.a p.2) (fun s hs=>?_) (fun r s nx x j hr hx hnx=>?_) _ _ _ h1 ⟨fun _ h=>h,rfl⟩
    .rw[hs.2];exact hk
    .have hxm:=hr.1 x (mem_of_getElem? hx)
     obtain⟨q1,q2⟩:=h.mem1 hxm;have hl:=qb (rx (hM.g1 _ q1)).1;rw[q2]at hl;rw[Na _ _ (by omega),Na _ _ (by omega),ze,iT]
     have hcl:fb c.i.a x.2=(dX x.1 c.i.a||dX c.i.a x.1):=by unfold fb;rw[q2]
     have hp2:=L8 hx
     have hany2:(r.any fun p=>fb c.i.a p.2)=(fb c.i.a x.2||(r.eraseIdx j).any fun p=>fb c.i.a p.2):=by
      rw[Bool.eq_iff_iff];simp only[Bool.or_eq_true,any_eq_true];constructor
      .rintro⟨y,hy,hy'⟩
       rcases mem_cons.1 (hp2.mem_iff.1 hy)with rfl|hy
       .exact .inl hy'
       .exact .inr ⟨y,hy,hy'⟩
      .rintro(hy'|⟨y,hy,hy'⟩)
       .exact⟨x,hp2.mem_iff.2 (mem_cons_self ..),hy'⟩
       .exact⟨y,hp2.mem_iff.2 (mem_cons_of_mem _ hy),hy'⟩
     cases hu:dX x.1 c.i.a with
     |true =>
      rw[hu,Bool.true_or]at hcl;rw[Bool.true_or,cond_true,hr.2,hany2,hcl,Bool.true_or,cond_true]
     |false =>
      rw[hu,Bool.false_or]at hcl;rw[Bool.false_or,Bool.not_false,cond_true]
      cases hv:dX c.i.a x.1 with
      |true =>
       rw[hv]at hcl;rw[cond_true,hr.2,hany2,hcl,Bool.true_or,cond_true]
      |false =>
       rw[hv]at hcl;rw[hcl,Bool.false_or]at hany2;rw[cond_false];exact hnx () ⟨fun p hp=>hr.1 p (hp2.mem_iff.2 (mem_cons_of_mem _ hp)),hr.2.trans hany2⟩
   have ha:=Am m1 c.i.a c.i
   have ha':(dF m1 c.i.a c.i).length<=274877906944:=by split at ha <;> omega
   rw[zg ha'];rw[hfor _ _ (bif !(dC M.h c.i.a).isSome&&decide (2000<=(M.h.length:Int))then(4,m1,m2,m3)else(0,dF m1 c.i.a c.i,m2,m3)) (iA _ _ _)];cases M.h.any (fb c.i.a)
   .simp only[cond_false]
    cases !(dC M.h c.i.a).isSome&&decide (2000<=(M.h.length:Int))
    .exact⟨_,_,_,rfl,h.put1 _⟩
    .exact⟨_,_,_,rfl,h⟩
   .exact⟨_,_,_,rfl,h⟩
  .cases (dC M.h c.i.a).isSome
   .exact⟨_,_,_,rfl,h⟩
   .exact⟨_,_,_,rfl,h.del1 _⟩
  .have ha:=Am m2 c.z.k c.z.Value
   have ha':(dF m2 c.z.k c.z.Value).length<=274877906944:=by split at ha <;> omega
   rw[zg ha'];cases !(gB M.r c.z.k).isSome&&decide (2000<=(M.r.length:Int))
   .exact⟨_,_,_,rfl,h.put2 _⟩
   .exact⟨_,_,_,rfl,h⟩
  .cases (gB M.r c.z.k).isSome
   .exact⟨_,_,_,rfl,h⟩
   .exact⟨_,_,_,rfl,h.del2 _⟩
  .have ha:=Am m3 c.q.w c.q
   have ha':(dF m3 c.q.w c.q).length<=274877906944:=by split at ha <;> omega
   rw[zg ha'];cases !(fD M.o c.q.w).isSome&&decide (100<=(M.o.length:Int))
   .exact⟨_,_,_,rfl,h.put3 _⟩
   .exact⟨_,_,_,rfl,h⟩
  .cases (fD M.o c.q.w).isSome
   .exact⟨_,_,_,rfl,h⟩
   .exact⟨_,_,_,rfl,h.del3 _⟩
 .rw[decide_eq_false he]
  exact⟨_,_,_,rfl,h⟩
end
theorem yU(c:ae)(M:ah):(zY c M).2.y=M.y:=by
 unfold zY;generalize hg1:(!decide (eCh c=0))=b1;generalize decide (c.u=2)=b2;generalize decide (c.u=4)=b3;generalize decide (c.u=6)=b4;generalize decide (c.u=1)=b5;generalize decide (c.u=3)=b6
 cases b1 <;> cases b2 <;> cases b3 <;> cases b4 <;> cases b5 <;> cases b6 <;> simp only[cond_true,cond_false] <;> (first|rfl|(split <;> rfl)|skip)
 all_goals repeat' (first|rfl|(rw[Bool.cond_eq_ite];split))
theorem PX(M:ah)(hf:FG M)(l:List ae)(hl:∀c∈l,gZ c):FW M l=some (mH M l):=by
 unfold FW mH;rw[PY M hf,ze]
 by_cases h0:Ab M=0
 .rw[decide_eq_true h0,Bool.not_true,cond_false,cond_false]
  have hM:=(DB M).1 h0;obtain⟨m1,m2,m3,e,hw⟩:=On hM;rw[e,ze];simp only[dH]
  have:∀(l:List ae) (i:Nat) (m1:List (dy×ab)) (m2:List (dy×dy)) (m3:List (dy×ai)) (N:ah),(∀c∈l,gZ c)->Good N->N.y=M.y->Wr m1 m2 m3 N ->
    forL l i (fun i_36 c_38 s nx_35 k_34 =>
     match s with
     |(m3_29,m4_30,m5_31) =>
      call (Gz c_38 M.y m3_29 m4_30 m5_31) fun r_39 =>
      bif !decide (r_39.1=0)then
       some ((ah.mk [] [] [] []),r_39.1)
      else
      nx_35 (r_39.2.1,r_39.2.2.1,r_39.2.2.2)) (m1,m2,m3) (fun s=>match s with
     |(m3_29,m4_30,m5_31) =>
      call (CG M.y m3_29 m4_30 m5_31) fun r_24 =>
       some (r_24,(0:Int)))=some (z6 l N):=by
   intro l
   induction l with
   |nil =>
    intro i m1 m2 m3 N _ hN hF hw;unfold forL;simp only
    rw[<-hF,Qm hw hN,ze];rfl
   |cons c l ih =>
    intro i m1 m2 m3 N hc hN hF hw;unfold forL;simp only;obtain⟨a,b,d,e,hw'⟩:=Km hw hN c (hc c (mem_cons_self ..)) M.y;rw[e,ze];simp only[z6];rw[ih _ _ _ _ _ (fun x hx=>hc x (mem_cons_of_mem _ hx)) (mT hN c) ((yU c N).trans hF) hw'];exact iA _ _ _
  exact this l 0 m1 m2 m3 M hl hM rfl hw
 .rw[decide_eq_false h0];rfl
def Ends{Z:Type}(m:Option Z)(P:Z->Prop):Prop:=∃z,m=some z/\P z
section
variable {Z A S α:Type} {P:Z->Prop}
theorem Ends.call{a:Option A}{k:A->Option Z}{Q:A->Prop}(h:Ends a Q)(hk:∀x,Q x->Ends (k x) P):Ends (Vc.call a k) P:=by
 obtain⟨x,rfl,hx⟩:=h;exact hk x hx
theorem Dl{f:Nat->α->S->(S->Option Z)->(S->Option Z)->Option Z}{k:S->Option Z}(inv:Nat->List α->S->Prop)
  (h0:∀i s,inv i [] s->Ends (k s) P) (h1:∀i x l s nx,inv i (x::l) s->(∀s',inv (i+1) l s'->Ends (nx s') P)->Ends (f i x s nx k) P) :
  ∀(l:List α) (i:Nat) (s:S),inv i l s->Ends (forL l i f s k) P
 |[],i,s,h=>h0 i s h
 |x::l,i,s,h=>h1 i x l s _ h fun s' hs=>Dl inv h0 h1 l (i+1) s' hs
theorem n9{f:S->(S->Option Z)->(S->Option Z)->Option Z}{k:S->Option Z}(inv:S->Prop)(mu:S->Nat)
  (h:∀s nx,inv s->(∀s',inv s'->mu s'<mu s->Ends (nx s') P)->Ends (f s nx k) P):∀(N:Nat) (s:S),inv s->mu s<N->Ends (loopN N f s k) P
 |0,s,_,hm=>by omega
 |N+1,s,hi,hm=>by
  unfold loopN
  exact h s _ hi fun s' hs' hlt=>n9 inv mu h N s' hs' (by omega)
theorem Gc{f:S->(S->Option Z)->(S->Option Z)->Option Z}{k:S->Option Z}(inv:S->Prop)(mu:S->Nat)
  (h:∀s nx,inv s->(∀s',inv s'->mu s'<mu s->Ends (nx s') P)->Ends (f s nx k) P) (s:S) (hi:inv s) (hm:mu s<1099511627776):Ends (loopN eV f s k) P:=by
 obtain⟨N,hN⟩:∃N,eV=N:=⟨_,rfl⟩;have hN2:1099511627776<=N:=hN ▸ rt;rw[hN];exact n9 inv mu h N s hi (by omega)
end
abbrev dY(o:List aa)(p:Nat):dy:=(o.getD p (aa.mk [] [])).k
theorem Bq(a b:aa):Lu a b=some (iJ a.k b.k):=rfl
theorem Nw{α:Type}(o:List α)(i p:Nat)(x d:α)(h:i<o.length):(o.set i x).getD p d=if i=p then x else o.getD p d:=by
 simp only[getD_eq_getElem?_getD,getElem?_set]
 by_cases e:i=p
 .subst e;simp[h]
 .simp[e]
theorem Nu{α:Type}(o:List α)(i:Nat)(d:α)(h:i<o.length):o.getD i d∈o:=by
 simp only[getD_eq_getElem?_getD,getElem?_eq_getElem h,Option.getD_some];exact getElem_mem h
structure mL(o0 o:List aa):Prop where
 len:o.length=o0.length
 sub:∀x∈o,x∈o0
 ord:∀p q,p<q->q<o.length->¬ dY o q<dY o p
theorem sa(o0:List aa)(hn:o0.length<=1073741824):Ends (zn 0 (o0.length:Int) o0) (mL o0):=by
 unfold zn;rw[show IntKind.i64.wrap ((0:Int)+1)=((1:Nat):Int)from rfl];refine Gc (fun st:Int×List aa=>∃i:Nat,st.1=i/\1<=i/\(i<=o0.length∨i=1)/\st.2.length=o0.length/\(∀x∈st.2,x∈o0)/\∀p q,p<q->q<i->q<o0.length->¬ dY st.2 q<dY st.2 p) (fun st=>o0.length-st.1.toNat) ?_ _ ⟨1,rfl,by omega,by omega,rfl,fun _ h=>h,fun p q h1 h2=>by omega⟩ (by simp only;omega);rintro⟨i',o⟩ nx ⟨i,rfl,hi1,hi,hl,hs,ho⟩ hnx;simp only at hl hs ho hnx|-
 by_cases hlt:i<o0.length
 .rw[decide_eq_true (by omega),cond_true,dH]
  refine Gc (fun st:Int×List aa=>∃j:Nat,st.1=j/\j<=i/\st.2.length=o0.length/\(∀x∈st.2,x∈o0)/\∀p q,p<q->q<=i->q≠j->¬ dY st.2 q<dY st.2 p) (fun st=>st.1.toNat) ?_ _ ⟨i,rfl,Nat.le_refl _,hl,hs,fun p q h1 h2 h3=>ho p q h1 (by omega) (by omega)⟩ (by simp only;omega);rintro⟨j',o1⟩ nx1 ⟨j,rfl,hj,hl1,hs1,ho1⟩ hnx1;simp only at hl1 hs1 ho1 hnx1|-
  have hend:(j=0∨¬ dY o1 j<dY o1 (j-1))->Ends (nx (IntKind.i64.wrap ((i:Int)+1),o1)) (mL o0):=by
   intro hj0;rw[fN i (by omega)];refine hnx _ ⟨i+1,rfl,by omega,by omega,hl1,hs1,fun p q h1 h2 h3=>?_⟩ (by simp only;omega)
   by_cases hq:q=j
   .subst hq
    rcases hj0 with hj0|hj0
    .omega
    .by_cases hp:p=q-1
     .rw[hp];exact hj0
     .have h4:=ho1 p (q-1) (by omega) (by omega) (by omega)
      intro h5
      rcases B6 (dY o1 q) (dY o1 (q-1))with h6|h6|h6
      .exact hj0 h6
      .exact h4 (h6 ▸ h5)
      .exact h4 (Ch h6 h5)
   .exact ho1 p q h1 (by omega) hq
  by_cases hj0:0<j
  .have hw:IntKind.i64.wrap ((j:Int)-1)=((j-1:Nat):Int):=lE _ hj0 (by omega)
   simp only[hw];rw[decide_eq_true (by omega),zg (by intro _;omega),zg (by intro _;omega),QC,Bq,ze,Bool.true_and,Dj];simp only[Int.toNat_natCast]
   by_cases hc:dY o1 j<dY o1 (j-1)
   .rw[decide_eq_true hc,cond_true,zg (by omega),zg (by omega),zg (by omega),zg (by simp only[length_set];omega)]
    refine hnx1 _ ⟨j-1,rfl,by omega,by simpa using hl1,fun x hx=>?_,fun p q h1 h2 h3=>?_⟩ (by simp only;omega)
    .rcases mem_or_eq_of_mem_set hx with hx|rfl
     .rcases mem_or_eq_of_mem_set hx with hx|rfl
      .exact hs1 x hx
      .exact hs1 _ (Nu _ _ _ (by omega))
     .exact hs1 _ (Nu _ _ _ (by omega))
    .have hset:∀p,dY ((o1.set j (o1.getD (j-1) (aa.mk [] []))).set (j-1) (o1.getD j (aa.mk [] []))) p=if p=j-1 then dY o1 j else if p=j then dY o1 (j-1)else dY o1 p:=by
      intro p;unfold dY;rw[Nw _ _ _ _ _ (by simp only[length_set];omega),Nw _ _ _ _ _ (by omega)]
      by_cases e1:j-1=p
      .rw[if_pos e1,if_pos e1.symm]
      .have e1':¬ p=j-1:=fun e=>e1 e.symm
       rw[if_neg e1,if_neg e1']
       by_cases e2:j=p
       .rw[if_pos e2,if_pos e2.symm]
       .have e2':¬ p=j:=fun e=>e2 e.symm
        rw[if_neg e2,if_neg e2']
     show ¬ dY ((o1.set j (o1.getD (j-1) (aa.mk [] []))).set (j-1) (o1.getD j (aa.mk [] []))) q<dY ((o1.set j (o1.getD (j-1) (aa.mk [] []))).set (j-1) (o1.getD j (aa.mk [] []))) p
     rw[hset,hset,if_neg h3]
     by_cases hq:q=j
     .subst hq
      rw[if_pos rfl]
      by_cases hp:p=q-1
      .rw[if_pos hp];exact yR hc
      .rw[if_neg hp,if_neg (by omega)]
       exact ho1 p (q-1) (by omega) (by omega) (by omega)
     .rw[if_neg hq]
      by_cases hp:p=j-1
      .rw[if_pos hp]
       exact ho1 j q (by omega) h2 hq
      .rw[if_neg hp]
       by_cases hp2:p=j
       .rw[if_pos hp2]
        exact ho1 (j-1) q (by omega) h2 hq
       .rw[if_neg hp2]
        exact ho1 p q h1 h2 hq
   .rw[decide_eq_false hc,cond_false]
    exact hend (.inr hc)
  .rw[decide_eq_false (by omega),zg (by intro h;cases h),zg (by intro h;cases h),Ot,Bool.false_and,cond_false]
   exact hend (.inl (by omega))
 .rw[decide_eq_false (by omega),cond_false]
  exact⟨_,rfl,hl,hs,fun p q h1 h2=>ho p q h1 (by omega) (by omega)⟩
theorem tV(o:List aa):zn 20 20 o=some o:=by
 unfold zn;obtain⟨N,hN⟩:∃N,eV=N+1:=⟨1099511627775,rfl⟩;rw[hN];unfold loopN;rfl
theorem n8{Z S:Type}{f:S->(S->Option Z)->(S->Option Z)->Option Z}{k:S->Option Z}{s:S}(h:∀nx,f s nx k=k s):loopN eV f s k=k s:=by
 obtain⟨N,hN⟩:∃N,eV=N+1:=⟨1099511627775,rfl⟩;rw[hN];unfold loopN;exact h _
theorem qv(o0:List aa)(hn:o0.length<=20):Ends (zw o0) (mL o0):=by
 unfold zw MA
 refine Ends.call (Q:=mL o0) ?_ fun x hx=>⟨x,rfl,hx⟩
 rw[dH]
 by_cases h20:o0.length=20
 .obtain⟨o,e,ho⟩:=sa o0 (by omega)
  rw[h20]at e|-;have e':zn 0 20 o0=some o:=e;refine Gc (fun st:Int×Int×List aa=>(st=(0,20,o0))∨st=(20,40,o)) (fun st=>40-st.2.1.toNat) ?_ _ (.inl rfl) (by simp only;omega);rintro st nx (rfl|rfl) hnx
  .simp only
   rw[decide_eq_true (by omega),cond_true,e',ze];exact hnx _ (.inr rfl) (show 40-(IntKind.i64.wrap (20+20)).toNat<40-(20:Int).toNat by decide)
  .simp only
   rw[decide_eq_false (by omega),cond_false];refine Ends.call (Q:=fun x=>x=o) ⟨o,tV o,rfl⟩ ?_;rintro x rfl;rw[n8 (fun nx=>by simp only;rw[decide_eq_false (by omega),cond_false])];exact⟨_,rfl,ho⟩
 .refine Gc (fun st:Int×Int×List aa=>st=(0,20,o0)) (fun st=>0) ?_ _ rfl (by omega)
  rintro st nx rfl hnx;simp only;rw[decide_eq_false (by omega),cond_false]
  refine Ends.call (sa o0 (by omega)) fun o ho=>?_
  rw[n8 (fun nx=>by simp only;rw[decide_eq_false (by omega),cond_false])];exact⟨_,rfl,ho⟩
def fF(z:Nat×Nat×List aa):List aa:=List.take z.2.1 (List.drop z.1 z.2.2)
structure uJ(o:List aa)(z:Nat×Nat×List aa):Prop where
 len:(fF z).length<=o.length
 sub:∀x∈fF z,x∈o
 srt:dU (·.k) (fF z)
theorem so(a b:aa):HP a b=some (decide (a.k=b.k)):=rfl
theorem NT{l:List aa}(h:∀p q,p<q->q<l.length->dY l p<dY l q):dU (·.k) l:=by
 unfold dU;rw[pairwise_iff_getElem];intro i j hi hj hij;have:=h i j hij hj
 simpa [dY,getD_eq_getElem?_getD,hi,hj]using this
theorem om{o:List aa}{n p:Nat}(h:p<n):dY (o.take n) p=dY o p:=by
 simp[dY,getD_eq_getElem?_getD,getElem?_take,h]
theorem BI(o:List aa)(hl:o.length<=1073741824)(ho:∀p q,p<q->q<o.length->¬ dY o q<dY o p) :
  Ends (zE o) (uJ o):=by
 unfold zE
 have h0:List.take o.length o=o:=by simp
 rw[h0]
 by_cases h2:(o.length:Int)<2
 .rw[decide_eq_true h2,cond_true]
  refine⟨_,rfl,?_,?_,?_⟩
  .simp[fF]
  .intro x hx;simpa [fF]using hx
  .refine NT fun p q hp hq=>?_
   simp[fF]at hq;omega
 .rw[decide_eq_false h2,cond_false,dH]
  refine Gc (fun k:Int=>∃i:Nat,k=i/\1<=i/\i<=o.length/\∀p q,p<q->q<i->dY o p<dY o q) (fun k=>o.length-k.toNat) ?_ _ ⟨1,rfl,Nat.le_refl _,by omega,fun p q h1 h2=>by omega⟩ (by omega);rintro k' nx ⟨K0,rfl,hK1,hK2,hK⟩ hnx
  by_cases hlt:K0<o.length
  .have hw:IntKind.i64.wrap ((K0:Int)-1)=((K0-1:Nat):Int):=lE _ hK1 (by omega)
   simp only[hw,Int.toNat_natCast,Nat.zero_add];rw[decide_eq_true (by omega),cond_true,dH,zg (by omega),zg (by omega),so,ze]
   by_cases he:dY o K0=dY o (K0-1)
   .rw[decide_eq_true he,cond_true,zg (by omega),dH]
    refine Gc (fun st:Int×Int×List aa=>∃k k2:Nat,st.1=k/\st.2.1=k2/\K0<=k/\1<=k2/\k+1<=K0+k2/\K0+k2<=o.length/\st.2.2.length=o.length/\(∀x∈st.2.2,x∈o) /\
      (∀p,K0+k2<=p+1->dY st.2.2 p=dY o p/\st.2.2.getD p (aa.mk [] [])=o.getD p (aa.mk [] []))/\(∀p q,p<q->q<k->dY st.2.2 p<dY st.2.2 q)/\dY st.2.2 (k-1)=dY o (K0+k2-1)) (fun st=>o.length-st.2.1.toNat) ?_ _
     ⟨K0,1,rfl,rfl,Nat.le_refl _,Nat.le_refl _,Nat.le_refl _,by omega,rfl,fun _ h=>h,fun _ _=>⟨rfl,rfl⟩,hK,by simpa using he.symm⟩ (by simp only;omega)
    rintro⟨ki,k2i,o1⟩ nx1 ⟨k,k2,rfl,rfl,q1,q2,q3,q4,q5,q6,q7,q8,q9⟩ hnx1;simp only at q5 q6 q7 q8 q9 hnx1|-
    have hlen:(List.take (o.length-K0) (List.drop K0 o1)).length=o.length-K0:=by simp[q5]
    by_cases hk2:K0+k2<o.length
    .have hw2:IntKind.i64.wrap ((k2:Int)-1)=((k2-1:Nat):Int):=lE _ q2 (by omega)
     simp only[hw2,Int.toNat_natCast];rw[decide_eq_true (by omega),cond_true,zg (by omega),zg (by omega),zg (by omega),zg (by omega),so,ze]
     have e1:K0+(k2-1)=K0+k2-1:=by omega
     have r1:=(q7 (K0+k2) (by omega)).1;have r2:=(q7 (K0+k2-1) (by omega)).1
     have hdec:decide ((aa.mk ((o1.getD (K0+k2) (aa.mk [] [])).k) ((o1.getD (K0+k2) (aa.mk [] [])).Value)).k=(aa.mk ((o1.getD (K0+(k2-1)) (aa.mk [] [])).k) ((o1.getD (K0+(k2-1)) (aa.mk [] [])).Value)).k)=decide (dY o (K0+k2)=dY o (K0+k2-1)):=by
      simp only[e1]
      show decide (dY o1 (K0+k2)=dY o1 (K0+k2-1))=_
      rw[r1,r2]
     rw[hdec]
     by_cases heq:dY o (K0+k2)=dY o (K0+k2-1)
     .rw[decide_eq_true heq,Bool.not_true,cond_false,fN k2 (by omega)]
      refine hnx1 _ ⟨k,k2+1,rfl,rfl,q1,by omega,by omega,by omega,q5,q6,fun p hp=>q7 p (by omega),q8,?_⟩ (by simp only;omega);simp only;rw[q9,show K0+(k2+1)-1=K0+k2 by omega,heq]
     .rw[decide_eq_false heq,Bool.not_false,cond_true,zg (by omega),zg (by omega),zg (by omega),zg (by omega),fN k2 (by omega),fN k (by omega)]
      have hgt:dY o (K0+k2-1)<dY o (K0+k2):=by
       rcases B6 (dY o (K0+k2-1)) (dY o (K0+k2))with h|h|h
       .exact h
       .exact absurd h.symm heq
       .exact absurd h (ho _ _ (by omega) (by omega))
      have hset:∀p,(o1.set k (aa.mk ((o1.getD (K0+k2) (aa.mk [] [])).k) ((o1.getD (K0+k2) (aa.mk [] [])).Value))).getD p (aa.mk [] [])=if k=p then o1.getD (K0+k2) (aa.mk [] [])else o1.getD p (aa.mk [] []):=by
       intro p;rw[Nw _ _ _ _ _ (by omega)]
      refine hnx1 _ ⟨k+1,k2+1,rfl,rfl,by omega,by omega,by omega,by omega,by simpa using q5,fun x hx=>?_,fun p hp=>?_,fun p q hp hq=>?_,?_⟩ (by simp only;omega)
      .rcases mem_or_eq_of_mem_set hx with hx|rfl
       .exact q6 x hx
       .exact q6 _ (Nu _ _ _ (by omega))
      .simp only[dY,hset]
       rw[if_neg (by omega)];exact q7 p (by omega)
      .simp only[dY,hset]
       rw[if_neg (by omega)]
       by_cases hqk:q=k
       .subst hqk
        rw[if_pos rfl]
        show dY o1 p<dY o1 (K0+k2)
        rw[r1]
        by_cases hpk:p=q-1
        .subst hpk;rw[q9];exact hgt
        .have:=q8 p (q-1) (by omega) (by omega)
         rw[q9]at this;exact Ch this hgt
       .rw[if_neg (fun e=>hqk e.symm)]
        exact q8 p q hp (by omega)
      .simp only[dY,hset]
       rw[if_pos (by omega)]
       show dY o1 (K0+k2)=dY o (K0+(k2+1)-1)
       rw[r1];rfl
    .rw[decide_eq_false (by omega),cond_false,zg (by omega),zg (by omega)]
     have hcut:fF (0,k,List.take k o1++List.replicate (o.length-k) (aa.mk [] [])++List.drop (k+(o.length-k)) o1)=o1.take k:=by
      unfold fF;simp only[drop_zero,append_assoc];rw[take_append_of_le_length (by simp only[length_take];omega),take_take,Nat.min_self]
     refine⟨_,rfl,?_,?_,?_⟩
     .show(fF (0,k,_)).length<=_
      rw[Int.toNat_natCast,hcut,length_take];omega
     .show ∀x∈fF (0,k,_),_
      rw[Int.toNat_natCast,hcut]
      exact fun x hx=>q6 x (mem_of_mem_take hx)
     .show dU _ (fF (0,k,_))
      rw[Int.toNat_natCast,hcut]
      refine NT fun p q hp hq=>?_
      rw[length_take]at hq;rw[om (by omega),om (by omega)];exact q8 p q hp (by omega)
   .rw[decide_eq_false he,cond_false,fN K0 (by omega)]
    refine hnx _ ⟨K0+1,rfl,by omega,by omega,fun p q h1 h2=>?_⟩ (by omega)
    have hgt:dY o (K0-1)<dY o K0:=by
     rcases B6 (dY o (K0-1)) (dY o K0)with h|h|h
     .exact h
     .exact absurd h.symm he
     .exact absurd h (ho _ _ (by omega) (by omega))
    by_cases hq:q=K0
    .subst hq
     by_cases hp:p=q-1
     .subst hp;exact hgt
     .exact Ch (hK p (q-1) (by omega) (by omega)) hgt
    .exact hK p q h1 (by omega)
  .rw[decide_eq_false (by omega),cond_false]
   refine⟨_,rfl,?_,?_,?_⟩
   .simp[fF]
   .intro x hx;simpa [fF]using hx
   .have e0:fF (0,o.length,o)=o:=by simp[fF]
    show dU _ (fF (0,o.length,o))
    rw[e0]
    exact NT fun p q hp hq=>hK p q hp (by omega)
structure Fw(a b d:Nat)(M:ah):Prop where
 good:Good M
 facts:M.y.length<=20
 files:M.h.length<=a
 data:∀f∈M.h,f.B.length<=3000
 sets:M.r.length<=b
 svcs:M.o.length<=d
def eW(f:ab):ae:=⟨1,f,⟨[],[]⟩,⟨[],[],false,false⟩⟩
def j3(s:aa):ae:=⟨3,⟨[],[],false⟩,s,⟨[],[],false,false⟩⟩
def j4(s:ai):ae:=⟨5,⟨[],[],false⟩,⟨[],[]⟩,s⟩
theorem Bp(c:ae)(hc:gZ c)(M:ah)(h:Good M):Cv c M.y M.h M.r M.o=some (bif decide ((zY c M).1=0)then((zY c M).2.y,(zY c M).2.h,(zY c M).2.r,(zY c M).2.o)else(M.y,M.h,M.r,M.o)):=by
 unfold Cv;rw[PX _ h.fit [c] (fun x hx=>by rcases mem_cons.1 hx with rfl|hx;exact hc;cases hx),ze];unfold mH;rw[decide_eq_true ((DB M).2 h),Bool.not_true,cond_false];unfold z6 z6
 by_cases h0:(zY c M).1=0
 .rw[decide_eq_true h0];rfl
 .rw[decide_eq_false h0]
  simp only[Bool.not_false,cond_true]
  rw[decide_eq_false h0];rfl
section
variable {a b d:Nat} {M:ah}
theorem Fw.next(h:Fw a b d M)(c:ae):Good (zY c M).2/\(zY c M).2.y.length<=20:=⟨mT h.good c,by rw[yU];exact h.facts⟩
theorem vY(f:ab)(M:ah):(zY (eW f) M).2=M∨(zY (eW f) M).2=⟨M.y,fz (·.a) f M.h,M.r,M.o⟩:=by
 unfold zY;have hk:(eW f).u=1:=rfl;rw[hk];simp only[lz,decide_true,cond_true,cond_false];cases !decide (eCh (eW f)=0)
 .cases M.h.any (fb (eW f).i.a)
  .cases !(dC M.h (eW f).i.a).isSome&&decide (2000<=(M.h.length:Int))
   .exact .inr rfl
   .exact .inl rfl
  .exact .inl rfl
 .exact .inl rfl
theorem vX(f:aa)(M:ah):(zY (j3 f) M).2=M∨(zY (j3 f) M).2=⟨M.y,M.h,fz (·.k) f M.r,M.o⟩:=by
 unfold zY;have hk:(j3 f).u=3:=rfl;rw[hk];simp only[lz,decide_true,cond_true,cond_false];cases !decide (eCh (j3 f)=0)
 .cases !(gB M.r (j3 f).z.k).isSome&&decide (2000<=(M.r.length:Int))
  .exact .inr rfl
  .exact .inl rfl
 .exact .inl rfl
theorem vW(f:ai)(M:ah):(zY (j4 f) M).2=M∨(zY (j4 f) M).2=⟨M.y,M.h,M.r,fz (·.w) f M.o⟩:=by
 unfold zY;have hk:(j4 f).u=5:=rfl;rw[hk];simp only[lz,decide_true,cond_true,cond_false];cases !decide (eCh (j4 f)=0)
 .cases !(fD M.o (j4 f).q.w).isSome&&decide (100<=(M.o.length:Int))
  .exact .inr rfl
  .exact .inl rfl
 .exact .inl rfl
theorem Fw.put(h:Fw a b d M)(f:ab)(hf:f.B.length<=3000):Fw (a+1) b d (zY (eW f) M).2:=by
 obtain⟨h1,h2⟩:=h.next (eW f)
 rcases vY f M with e|e <;> rw[e]at h1 h2|-
 .exact⟨h1,h2,by have:=h.files;omega,h.data,h.sets,h.svcs⟩
 .refine⟨h1,h2,?_,fun x hx=>?_,h.sets,h.svcs⟩
  .have:=h.files
   show(fz (fun x:ab=>x.a) f M.h).length<=_
   rw[Dm h.good.g2]
   split <;> omega
  .rcases mem_ins.1 hx with rfl|⟨hx,_⟩
   .exact hf
   .exact h.data x hx
theorem Fw.set(h:Fw a b d M)(f:aa):Fw a (b+1) d (zY (j3 f) M).2:=by
 obtain⟨h1,h2⟩:=h.next (j3 f)
 rcases vX f M with e|e <;> rw[e]at h1 h2|-
 .exact⟨h1,h2,h.files,h.data,by have:=h.sets;omega,h.svcs⟩
 .refine⟨h1,h2,h.files,h.data,?_,h.svcs⟩
  have:=h.sets
  show(fz (fun x:aa=>x.k) f M.r).length<=_
  rw[Dm h.good.s2]
  split <;> omega
theorem Fw.svc(h:Fw a b d M)(f:ai):Fw a b (d+1) (zY (j4 f) M).2:=by
 obtain⟨h1,h2⟩:=h.next (j4 f)
 rcases vW f M with e|e <;> rw[e]at h1 h2|-
 .exact⟨h1,h2,h.files,h.data,h.sets,by have:=h.svcs;omega⟩
 .refine⟨h1,h2,h.files,h.data,h.sets,?_⟩
  have:=h.svcs
  show(fz (fun x:ai=>x.w) f M.o).length<=_
  rw[Dm h.good.v2]
  split <;> omega
end
abbrev M4:=List aa×List ab×List aa×List ai
def m4(M:ah):M4:=(M.y,M.h,M.r,M.o)
theorem M0{a b d:Nat}{M:ah}(h:Fw a b d M){c:ae}(hc:gZ c){a' b' d':Nat}(hn:Fw a' b' d' (zY c M).2)(ha:a<=a')(hb:b<=b')(hd:d<=d') :
  Ends (Cv c M.y M.h M.r M.o) fun r=>∃N,r=m4 N/\Fw a' b' d' N:=by
 refine⟨_,Bp c hc M h.good,?_⟩;cases decide ((zY c M).1=0)
 .exact⟨M,rfl,h.good,h.facts,Nat.le_trans h.files ha,h.data,Nat.le_trans h.sets hb,Nat.le_trans h.svcs hd⟩
 .exact⟨_,rfl,hn⟩
theorem lT{Z α:Type}{P:Z->Prop}{f:Nat->α->M4->(M4->Option Z)->(M4->Option Z)->Option Z}{k:M4->Option Z}(F:Nat->ah->Prop)(n0:Nat)(Q:α->Prop)
  (hk:∀n M,n<=n0->F n M->Ends (k (m4 M)) P) (hf:∀i x nx k n M,Q x->F n M->(∀N,F (n+1) N->Ends (nx (m4 N)) P)->Ends (f i x (m4 M) nx k) P) (l:List α) (hl:l.length<=n0) (hq:∀x∈l,Q x) {M:ah} (hM:F 0 M) :
  Ends (forL l 0 f (m4 M) k) P:=by
 refine Dl (fun i r st=>∃M,st=m4 M/\F i M/\(∀x∈r,Q x)/\i+r.length=l.length) (fun i s h=>?_) (fun i x r s nx h hnx=>?_) l 0 _ ⟨M,rfl,hM,hq,by omega⟩
 .obtain⟨M,rfl,h1,_,h2⟩:=h
  exact hk i M (by simp at h2;omega) h1
 .obtain⟨M,rfl,h1,h2,h3⟩:=h
  exact hf i x nx k i M (h2 x (mem_cons_self ..)) h1 fun N hN=>hnx _ ⟨N,rfl,hN,fun y hy=>h2 y (mem_cons_of_mem _ hy),by simp only[length_cons]at h3;omega⟩
theorem xk(m:ah)(hm:FG m):Ends (Hj m) (Fw 40 40 40):=by
 have hm1:=hm.facts;have hm2:=hm.files;have hm3:=hm.sets;have hm4:=hm.svcs;unfold Hj;rw[dH];refine Dl (fun i r o=>o.length<=20/\o.length<=i/\i+r.length=m.y.length/\∀x∈o,uP x=0) (fun i o h=>?_) (fun i x r o nx h hnx=>?_) m.y 0 [] ⟨by simp,by simp,by simp,by simp⟩
 .obtain⟨h1,_,_,h2⟩:=h
  refine Ends.call (qv o h1) fun o1 hs=>?_
  refine Ends.call (BI o1 (by have:=hs.len;omega) hs.ord) fun z hz=>?_
  have hz1:=hz.len;have hz2:=hs.len
  have hF:Fw 0 0 0 ⟨fF z,[],[],[]⟩:=by
   refine⟨⟨by simp only;omega,by simp,by simp,by simp,fun x hx=>h2 x (hs.sub x (hz.sub x hx)),hz.srt,by simp,by simp[dU],by simp,by simp,by simp[dU],by simp,by simp[dU]⟩,by simp only;omega,by simp,by simp,by simp,by simp⟩
  rw[dH,zg (by omega)];refine lT (F:=fun n M=>Fw n 0 0 M) (n0:=40) (Q:=fun f:ab=>Sm f.a) (fun n M hn hM=>?_) (fun i f nx k n M hf hM hnx=>?_) _ (by simp only[length_take];omega) (fun x hx=>hm.fp x (mem_of_mem_take hx)) hF
  .have hM40:Fw 40 0 0 M:=⟨hM.good,hM.facts,Nat.le_trans hM.files hn,hM.data,hM.sets,hM.svcs⟩
   show Ends (jp _ _) _
   rw[dH,zg (by omega)];refine lT (F:=fun n M=>Fw 40 n 0 M) (n0:=40) (Q:=fun f:aa=>Sm f.k) (fun n M hn hM=>?_) (fun i f nx k n M hf hM hnx=>?_) _ (by simp only[length_take];omega) (fun x hx=>hm.sp x (mem_of_mem_take hx)) hM40
   .have hM40:Fw 40 40 0 M:=⟨hM.good,hM.facts,hM.files,hM.data,Nat.le_trans hM.sets hn,hM.svcs⟩
    show Ends (jp _ _) _
    rw[dH,zg (by omega)];refine lT (F:=fun n M=>Fw 40 40 n M) (n0:=40) (Q:=fun f:ai=>Sm f.a) (fun n M hn hM=>?_) (fun i f nx k n M hf hM hnx=>?_) _ (by simp only[length_take];omega) (fun x hx=>hm.vp x (mem_of_mem_take hx)) hM40
    .exact⟨_,rfl,hM.good,hM.facts,hM.files,hM.data,hM.sets,Nat.le_trans hM.svcs hn⟩
    .show Ends (call _ _) _
     refine Ends.call (M0 hM (c:=j4 f) ⟨by simp[Sm,j4],by simp[Sm,j4],hf⟩ (hM.svc f) (Nat.le_refl _) (Nat.le_refl _) (Nat.le_succ _)) ?_;rintro r ⟨N,rfl,hN⟩;exact hnx N hN
   .show Ends (call _ _) _
    refine Ends.call (M0 hM (c:=j3 f) ⟨by simp[Sm,j3],hf,by simp[Sm,j3]⟩ (hM.set f) (Nat.le_refl _) (Nat.le_succ _) (Nat.le_refl _)) ?_;rintro r ⟨N,rfl,hN⟩;exact hnx N hN
  .show Ends (dA _ _) _
   rw[zg (by omega)];have hN:Fw (n+1) 0 0 _:=hM.put ⟨f.a,List.take ((min (f.B.length:Int) 3000).toNat) f.B,f.C⟩ (by simp only[length_take];omega);refine Ends.call (M0 hM (c:=eW ⟨f.a,List.take ((min (f.B.length:Int) 3000).toNat) f.B,f.C⟩) ⟨hf,by simp[Sm,eW],by simp[Sm,eW]⟩ hN (Nat.le_succ _) (Nat.le_refl _) (Nat.le_refl _)) ?_;rintro r ⟨N,rfl,hN⟩;exact hnx N hN
 .obtain⟨h1,h2,h3,h4⟩:=h
  simp only[length_cons]at h3;rw[Im,OQ,ze,iT];cases hb:(eS x.k&&(bif eS x.k then pV x.Value else false))&&decide ((o.length:Int)<20)
  .exact hnx _ ⟨h1,by omega,by omega,h4⟩
  .simp only[Bool.and_eq_true,decide_eq_true_eq]at hb
   obtain⟨⟨hb1,hb2⟩,hb3⟩:=hb;rw[hb1,cond_true]at hb2;rw[cond_true,zg (by simp only[length_append,length_cons,length_nil];omega)];refine hnx _ ⟨by simp only[length_append,length_cons,length_nil];omega,by simp only[length_append,length_cons,length_nil];omega,by omega,fun y hy=>?_⟩
   rcases mem_append.1 hy with hy|hy
   .exact h4 y hy
   .simp at hy
    subst hy;unfold uP
    rw[hb1,hb2];rfl
theorem Ai(a b:dy):D5 a b=some (iJ a b):=rfl
theorem tS:Ia=some true:=by
 unfold Ia
 rw[DZ];rfl
def fw(l:List ab)(d:dy):Int:=((l.filter fun f=>dX f.a d).length:Int)
def up(b:Bool)(n:Int):Int:=bif b then n else 0
theorem NO{l l':List ab}(h:l.Perm l')(d:dy):fw l d=fw l' d:=by
 unfold fw;rw[(h.filter _).length_eq]
theorem NN(f:ab)(l:List ab)(d:dy):fw (f::l) d=fw l d+up (dX f.a d) 1:=by
 unfold fw up;rw[filter_cons]
 cases dX f.a d <;> simp
section
variable {A:Type} {key:A->dy}
theorem xc{l:List A}(hs:dU key l)(x:A):(fz key x l).Perm (x::fW key (key x) l):=by
 refine(perm_ext_iff_of_nodup (Gf (yJ hs x)) ?_).2 fun y=>?_
 .rw[nodup_cons]
  exact⟨fun h=>(mem_del.1 h).2 rfl,Gf (Aj hs _)⟩
 .rw[mem_ins,mem_cons,mem_del]
theorem oO{l:List A}(hs:dU key l){k:dy}{x:A}(h:lk key l k=some x):l.Perm (x::fW key k l):=by
 obtain⟨h1,h2⟩:=jE h
 refine(perm_ext_iff_of_nodup (Gf hs) ?_).2 fun y=>?_
 .rw[nodup_cons]
  exact⟨fun h=>(mem_del.1 h).2 h2,Gf (Aj hs _)⟩
 .rw[mem_cons,mem_del]
  constructor
  .intro hy
   by_cases e:key y=k
   .exact .inl (rG hs hy h1 (e.trans h2.symm))
   .exact .inr ⟨hy,e⟩
  .rintro(rfl|⟨hy,_⟩)
   .exact h1
   .exact hy
theorem oP{l:List A}{k:dy}(h:lk key l k=none):fW key k l=l:=by
 unfold fW;rw[filter_eq_self];intro x hx;have:=lk_none.1 h x hx
 simpa using this
end
theorem oX{l:List ab}(hs:dU (·.a) l)(f:ab)(d:dy):fw (fz (·.a) f l) d=fw l d+up (!(dC l f.a).isSome&&dX f.a d) 1:=by
 rw[NO (xc hs f),NN]
 cases h:dC l f.a with
 |none=>rw[oP h];rfl
 |some x =>
  rw[NO (oO hs h) d,NN,(jE h).2];simp[up]
theorem xN{l:List ab}(hs:dU (·.a) l)(k d:dy):fw (fW (·.a) k l) d=fw l d-up ((dC l k).isSome&&dX k d) 1:=by
 cases h:dC l k with
 |none=>rw[oP h];simp[up]
 |some x =>
  rw[NO (oO hs h) d,NN,(jE h).2];simp only[Option.isSome_some,Bool.true_and];omega
theorem BJ(l:List ab)(d:dy):0<=fw l d/\fw l d<=l.length:=by
 unfold fw;have:=length_filter_le (fun f:ab=>dX f.a d) l;omega
theorem xM(l:List ab)(p:dy):decide (0<fw l p)=l.any fun f=>dX f.a p:=by
 rw[Bool.eq_iff_iff,decide_eq_true_eq,any_eq_true];unfold fw;constructor
 .intro h
  obtain⟨x,hx⟩:=exists_mem_of_length_pos (by omega:0<(l.filter fun f=>dX f.a p).length);exact⟨x,(mem_filter.1 hx).1,(mem_filter.1 hx).2⟩
 .rintro⟨x,hx,h⟩
  have:=length_pos_of_mem (mem_filter (p:=fun f:ab=>dX f.a p) |>.2 ⟨hx,h⟩);omega
theorem vG{p d:dy}(h:dX p d=true):d.length<p.length:=by
 obtain⟨r,rfl⟩:=F8 h;simp
theorem kZ(p:dy)(hp:p.length<=200)(n:Int)(hn:-1<=n/\n<=1)(o0:List aa)(a:List (dy×ab))(m:List (dy×Int))(hm:m.length<=137438953472)(hb:∀d,-4611686018427387904<=(zG m d).getD 0/\(zG m d).getD 0<=4611686018427387904)(b:List (dy×aa))(c:List (dy×ai)) :
  ∃m',GV p n o0 a m b c=some m'/\m'.length<=m.length+200/\∀d,(zG m' d).getD 0=(zG m d).getD 0+up (dX p d) n:=by
 unfold GV Mb
 have key:Ends (forL p 0 (fun i_71 c_73 (m3_65:List (dy×Int)) nx_70 (k_69:List (dy×Int)->Option (Bool×List (dy×Int))) =>
  dA ((decide ((c_73.toNat:Int)=47))=true->(0<=(i_71:Int)/\(i_71:Int)<=(p.length:Int))) <|
  callG (decide ((c_73.toNat:Int)=47)) (I3 (List.take i_71 p) o0 a m3_65 b c n) (false,m3_65) fun r_75 =>
  bif ((decide ((c_73.toNat:Int)=47))&&(!r_75.1))then
   some (false,r_75.2)
  else
  nx_70 r_75.2) m (fun m3_65=>some (true,m3_65))) (fun r=>r.2.length<=m.length+200/\∀d,(zG r.2 d).getD 0=(zG m d).getD 0+up (dX p d) n):=by
  refine Dl (fun i r m3=>i+r.length=p.length/\p.drop i=r/\m3.length<=m.length+i/\∀d,(zG m3 d).getD 0=(zG m d).getD 0+up (dX p d&&decide (d.length<i)) n) (fun i s h=>?_) (fun i x r s nx h hnx=>?_) p 0 m ⟨by simp,by simp,by simp,fun d=>by simp[up]⟩
  .obtain⟨h1,h2,h3,h4⟩:=h
   simp only[length_nil]at h1;refine⟨_,rfl,by simp only;omega,fun d=>?_⟩;simp only;rw[h4]
   congr 2
   cases hu:dX p d with
   |false=>rfl
   |true=>have:=vG hu;simp;omega
  .obtain⟨h1,h2,h3,h4⟩:=h
   simp only[length_cons]at h1
   have hi:i<p.length:=by omega
   have hx:p[i]=x:=by
    have:=drop_eq_getElem_cons hi;rw[h2]at this;exact(List.cons.inj this).1.symm
   have hd':p.drop (i+1)=r:=by
    have:=congrArg List.tail h2
    simpa using this
   rw[zg (by intro _;omega)]
   cases hc:decide ((x.toNat:Int)=47)with
   |false =>
    rw[Ot];simp only[Bool.false_and,cond_false];refine hnx _ ⟨by omega,hd',by omega,fun d=>?_⟩;rw[h4]
    congr 2
    cases hu:dX p d with
    |false=>rfl
    |true =>
     obtain⟨j,hj,hj1,rfl⟩:=undB_at.1 hu
     have hji:j≠i:=fun e=>by
      subst e;rw[hx]at hj1;rw[hj1]at hc;cases hc
     simp only[Bool.true_and,length_take];exact decide_eq_decide.2 (by omega)
   |true =>
    have h47:p[i]=47:=by
     rw[hx]
     have h5:x.toNat=47:=by simp only[decide_eq_true_eq]at hc;omega
     exact UInt8.toNat.inj h5
    rw[QC];unfold I3;have hl:=Am s (List.take i p) (IntKind.i64.wrap (((zG s (List.take i p)).getD 0)+n))
    have hl':(dF s (List.take i p) (IntKind.i64.wrap (((zG s (List.take i p)).getD 0)+n))).length<=s.length+1:=by split at hl <;> omega
    simp only[fj];rw[zg (by omega),ze];simp only[Bool.not_true,Bool.and_false,cond_false];refine hnx _ ⟨by omega,hd',by omega,fun d=>?_⟩;rw[u0];have hui:dX p (List.take i p)=true:=undB_at.2 ⟨i,hi,h47,rfl⟩
    by_cases e:List.take i p=d
    .subst e
     rw[if_pos rfl,Option.getD_some,h4]
     have hlen:(List.take i p).length=i:=by simp;omega
     have:=hb (List.take i p);rw[hlen,hui];simp only[Bool.true_and,Nat.lt_irrefl,decide_false,Nat.lt_succ_self,decide_true,up,cond_true,cond_false]
     rw[gS (by omega) (by omega)];omega
    .rw[if_neg e,h4]
     congr 2
     cases hu:dX p d with
     |false=>rfl
     |true =>
      obtain⟨j,hj,hj1,rfl⟩:=undB_at.1 hu
      have hji:j≠i:=fun e'=>e (by rw[e'])
      simp only[Bool.true_and,length_take];exact decide_eq_decide.2 (by omega)
 rw[dH];obtain⟨r,e,h1,h2⟩:=key;rw[e,ze];exact⟨_,rfl,h1,h2⟩
theorem uB(p:dy)(o0:List aa)(a:List (dy×ab))(m:List (dy×Int))(b:List (dy×aa))(c:List (dy×ai)) :
  IF p o0 a m b c=some (jZ (fun i x=>!(decide ((x.toNat:Int)=47)&&(zG a (p.take i)).isSome)) 0 p):=by
 unfold IF;rw[dH]
 have:∀(l:dy) (i:Nat),p.drop i=l->forL l i (fun i_48 c_50 (s:Unit) nx_47 (k_46:Unit->Option Bool) =>
  dA ((decide ((c_50.toNat:Int)=47))=true->(0<=(i_48:Int)/\(i_48:Int)<=(p.length:Int))) <|
  callG (decide ((c_50.toNat:Int)=47)) (Jf (List.take i_48 p) o0 a m b c) false fun r_52 =>
  bif ((decide ((c_50.toNat:Int)=47))&&(!r_52))then
   some false
  else
  nx_47 ()) () (fun _=>some true)=some (jZ (fun i x=>!(decide ((x.toNat:Int)=47)&&(zG a (p.take i)).isSome)) i l):=by
  intro l
  induction l with
  |nil=>intro i _;rfl
  |cons x l ih =>
   intro i hd
   have hi:i<p.length:=by
    rcases Nat.lt_or_ge i p.length with h|h
    .exact h
    .rw[drop_eq_nil_of_le h]at hd;cases hd
   unfold forL jZ;simp only[ih (i+1) (by have:=congrArg List.tail hd;simpa using this)];rw[zg (by intro _;omega)];simp only[Jf,fj,iT]
   cases decide ((x.toNat:Int)=47) <;> cases (zG a (List.take i p)).isSome <;> rfl
 exact this p 0 rfl
structure Bn(b:Nat)(m1:List (dy×ab))(m2:List (dy×Int))(m3:List (dy×aa))(m4:List (dy×ai))(M:ah):Prop where
 n1:(m1.map (·.1)).Nodup
 n3:(m3.map (·.1)).Nodup
 n4:(m4.map (·.1)).Nodup
 k1:∀k v,zG m1 k=some v->v.a=k
 k3:∀k v,zG m3 k=some v->v.k=k
 k4:∀k v,zG m4 k=some v->v.w=k
 e1:im gF eE m1=M.h
 e3:im (fun _ v=>v) eI m3=M.r
 e4:im gV eC m4=M.o
 l2:m2.length<=b
 cnt:∀d,(zG m2 d).getD 0=fw M.h d
section
variable {b:Nat} {m1:List (dy×ab)} {m2:List (dy×Int)} {m3:List (dy×aa)} {m4:List (dy×ai)} {M:ah}
theorem Bn.l1(h:Bn b m1 m2 m3 m4 M):m1.length=M.h.length:=by rw[<-h.e1,FU]
theorem Bn.l3(h:Bn b m1 m2 m3 m4 M):m3.length=M.r.length:=by rw[<-h.e3,FU]
theorem Bn.l4(h:Bn b m1 m2 m3 m4 M):m4.length=M.o.length:=by rw[<-h.e4,FU]
theorem Bn.look1(h:Bn b m1 m2 m3 m4 M)(k:dy):zG m1 k=dC M.h k:=by
 rw[<-h.e1];refine Eq.trans ?_ (vi (key:=fun x:ab=>x.a) (g:=gF) (d:=eE) h.k1 k).symm
 cases zG m1 k <;> rfl
theorem Bn.look3(h:Bn b m1 m2 m3 m4 M)(k:dy):zG m3 k=gB M.r k:=by
 rw[<-h.e3];refine Eq.trans ?_ (vi (key:=fun x:aa=>x.k) (g:=fun _ v=>v) (d:=eI) h.k3 k).symm
 cases zG m3 k <;> rfl
theorem Bn.look4(h:Bn b m1 m2 m3 m4 M)(k:dy):zG m4 k=fD M.o k:=by
 rw[<-h.e4];refine Eq.trans ?_ (vi (key:=fun x:ai=>x.w) (g:=gV) (d:=eC) h.k4 k).symm
 cases zG m4 k <;> rfl
theorem Bn.small(h:Bn b m1 m2 m3 m4 M)(hM:Good M)(d:dy):-4611686018427387904<=(zG m2 d).getD 0/\(zG m2 d).getD 0<=4611686018427387904:=by
 rw[h.cnt];have:=BJ M.h d;have:=hM.c2;omega
theorem Bn.le(h:Bn b m1 m2 m3 m4 M){b':Nat}(hb:b<=b'):Bn b' m1 m2 m3 m4 M:={ h with l2:=Nat.le_trans h.l2 hb }
theorem yx(h:Bn b m1 m2 m3 m4 M)(hM:Good M)(hb:b<=137438953472)(f:ab)(hf:f.a.length<=200)(o0:List aa) :
  ∃a c,AG f o0 m1 m2 m3 m4=some (a,c)/\Bn (b+200) a c m3 m4 ⟨M.y,fz (·.a) f M.h,M.r,M.o⟩:=by
 have h1:=h.l1;have hc2:=hM.c2;have hl2:=h.l2;unfold AG;simp only[fj];have hla:=Am m1 f.a f
 have hla':(dF m1 f.a f).length<=274877906944:=by split at hla <;> omega
 have base:∀c:List (dy×Int),c.length<=b+200->(∀d,(zG c d).getD 0=fw (fz (·.a) f M.h) d)->Bn (b+200) (dF m1 f.a f) c m3 m4 ⟨M.y,fz (·.a) f M.h,M.r,M.o⟩:=fun c hc hcnt =>
  { h with
   n1:=Az h.n1 _ _
   k1:=fun k v hv=>by
    rw[u0]at hv;split at hv
    .rename_i e;cases hv;exact e
    .exact h.k1 _ _ hv
   e1:=by rw[<-h.e1];exact F7 (key:=fun x:ab=>x.a) (g:=gF) h.n1 h.k1 _ _ rfl
   l2:=hc
   cnt:=hcnt }
 rw[h.look1]
 cases hs:(dC M.h f.a).isSome with
 |false =>
  obtain⟨m',e,q1,q2⟩:=kZ f.a hf 1 ⟨by omega,by omega⟩ o0 m1 m2 (by omega) (h.small hM) m3 m4;simp only[Bool.not_false,cond_true];rw[e,ze,zg hla'];refine⟨_,_,rfl,base _ (by omega) fun d=>?_⟩
  rw[q2,h.cnt,oX hM.g2,hs];rfl
 |true =>
  simp only[Bool.not_true,cond_false];rw[zg hla'];refine⟨_,_,rfl,base _ (by omega) fun d=>?_⟩;rw[h.cnt,oX hM.g2,hs];simp[up]
theorem yw(h:Bn b m1 m2 m3 m4 M)(hM:Good M)(hb:b<=137438953472)(p:dy)(hf:p.length<=200)(hp:(dC M.h p).isSome=true)(o0:List aa) :
  ∃a c,I6 p o0 m1 m2 m3 m4=some (a,c)/\Bn (b+200) a c m3 m4 ⟨M.y,fW (·.a) p M.h,M.r,M.o⟩:=by
 have hl2:=h.l2;unfold I6;obtain⟨m',e,q1,q2⟩:=kZ p hf (-1) ⟨by omega,by omega⟩ o0 (fC m1 p) m2 (by omega) (h.small hM) m3 m4;rw[e,ze]
 refine⟨_,_,rfl,{ h with
   n1:=DK h.n1 _
   k1:=fun k v hv=>by
    rw[Cj h.n1]at hv;split at hv
    .cases hv
    .exact h.k1 _ _ hv
   e1:=by rw[<-h.e1];exact F6 (key:=fun x:ab=>x.a) (g:=gF) h.n1 h.k1 _
   l2:=by omega
   cnt:=fun d=>?_ }⟩
 show _=fw (fW (fun x:ab=>x.a) p M.h) d
 rw[q2,h.cnt,xN hM.g2,hp];simp only[Bool.true_and]
 cases dX p d <;> rfl
theorem Bn.put3(h:Bn b m1 m2 m3 m4 M)(f:aa):Bn (b+200) m1 m2 (dF m3 f.k f) m4 ⟨M.y,M.h,fz (·.k) f M.r,M.o⟩ :=
 { h.le (Nat.le_add_right _ _)with
  n3:=Az h.n3 _ _
  k3:=fun k v hv=>by
   rw[u0]at hv;split at hv
   .rename_i e;cases hv;exact e
   .exact h.k3 _ _ hv
  e3:=by rw[<-h.e3];exact F7 (key:=fun x:aa=>x.k) (g:=fun _ v=>v) h.n3 h.k3 _ _ rfl }
theorem Bn.put4(h:Bn b m1 m2 m3 m4 M)(f:ai):Bn (b+200) m1 m2 m3 (dF m4 f.w f) ⟨M.y,M.h,M.r,fz (·.w) f M.o⟩ :=
 { h.le (Nat.le_add_right _ _)with
  n4:=Az h.n4 _ _
  k4:=fun k v hv=>by
   rw[u0]at hv;split at hv
   .rename_i e;cases hv;exact e
   .exact h.k4 _ _ hv
  e4:=by rw[<-h.e4];exact F7 (key:=fun x:ai=>x.w) (g:=gV) h.n4 h.k4 _ _ rfl }
theorem Bn.del3(h:Bn b m1 m2 m3 m4 M)(k:dy):Bn (b+200) m1 m2 (fC m3 k) m4 ⟨M.y,M.h,fW (·.k) k M.r,M.o⟩ :=
 { h.le (Nat.le_add_right _ _)with
  n3:=DK h.n3 _
  k3:=fun k v hv=>by
   rw[Cj h.n3]at hv;split at hv
   .cases hv
   .exact h.k3 _ _ hv
  e3:=by rw[<-h.e3];exact F6 (key:=fun x:aa=>x.k) (g:=fun _ v=>v) h.n3 h.k3 _ }
theorem Bn.del4(h:Bn b m1 m2 m3 m4 M)(k:dy):Bn (b+200) m1 m2 m3 (fC m4 k) ⟨M.y,M.h,M.r,fW (·.w) k M.o⟩ :=
 { h.le (Nat.le_add_right _ _)with
  n4:=DK h.n4 _
  k4:=fun k v hv=>by
   rw[Cj h.n4]at hv;split at hv
   .cases hv
   .exact h.k4 _ _ hv
  e4:=by rw[<-h.e4];exact F6 (key:=fun x:ai=>x.w) (g:=gV) h.n4 h.k4 _ }
theorem PW(h:Bn b m1 m2 m3 m4 M)(hM:Good M)(p:dy)(o0:List aa):I4 p o0 m1 m2 m3 m4=some (M.h.any (fb p)):=by
 unfold I4;rw[uB,ze];simp only[fj];rw[h.cnt,xM]
 congr 1
 have h1:(!jZ (fun i x=>!(decide ((x.toNat:Int)=47)&&(zG m1 (p.take i)).isSome)) 0 p)=M.h.any fun f=>dX p f.a:=by
  rw[Bool.eq_iff_iff,Bool.not_eq_true',<-Bool.not_eq_true,MV,any_eq_true];constructor
  .intro hh
   refine Classical.byContradiction fun hc=>hh fun j hj=>?_
   rw[Nat.zero_add]
   cases hx:decide ((p[j].toNat:Int)=47)with
   |false=>rfl
   |true =>
    have h47:p[j]=47:=by
     have h5:p[j].toNat=47:=by simp only[decide_eq_true_eq]at hx;omega
     exact UInt8.toNat.inj h5
    rw[h.look1]
    cases hl:dC M.h (p.take j)with
    |none=>rfl
    |some f =>
     obtain⟨q1,q2⟩:=jE hl;exact absurd ⟨f,q1,by rw[q2];exact undB_at.2 ⟨j,hj,h47,rfl⟩⟩ hc
  .rintro⟨f,hf,hu⟩ hall
   obtain⟨j,hj,h47,hd⟩:=undB_at.1 hu;have:=hall j hj;have hl:dC M.h f.a=some f:=vk hM.g2 hf;rw[Nat.zero_add,h47,h.look1,<-hd,hl]at this;cases this
 rw[h1,Bool.eq_iff_iff,Bool.or_eq_true,any_eq_true,any_eq_true,any_eq_true];constructor
 .rintro(⟨f,hf,hu⟩|⟨f,hf,hu⟩)
  .exact⟨f,hf,by unfold fb;rw[hu,Bool.or_true]⟩
  .exact⟨f,hf,by unfold fb;rw[hu];rfl⟩
 .rintro⟨f,hf,hu⟩
  unfold fb at hu;rw[Bool.or_eq_true]at hu
  rcases hu with hu|hu
  .exact .inr ⟨f,hf,hu⟩
  .exact .inl ⟨f,hf,hu⟩
theorem KI(h:Bn b m1 m2 m3 m4 M)(hM:Good M)(hb:b<=137438953472)(c:ae)(hc:gZ c)(o0:List aa) :
  ∃a1 a2 a3 a4,D3 c o0 m1 m2 m3 m4=some ((zY c M).1,a1,a2,a3,a4)/\Bn (b+200) a1 a2 a3 a4 (zY c M).2:=by
 have h1:=h.l1;have h3:=h.l3;have h4:=h.l4;have hc1:=hM.c1;have hc2:=hM.c2;have hc3:=hM.c3;have hc4:=hM.c4;have hst:Bn (b+200) m1 m2 m3 m4 M:=h.le (Nat.le_add_right _ _);unfold D3 zY;rw[OC c hc,ze]
 by_cases he:eCh c=0
 .rw[decide_eq_true he,Bool.not_true,cond_false,cond_false]
  unfold D6 Hc G6 G5;simp only[dH,fj,h.look1,h.look3,h.look4,h1,h3,h4,PW h hM,ze];have hlF:IntKind.i64.wrap ((M.h.length:Int)+1)=((M.h.length+1:Nat):Int):=fN _ (by omega);have hlS:IntKind.i64.wrap ((M.r.length:Int)+1)=((M.r.length+1:Nat):Int):=fN _ (by omega);have hlV:IntKind.i64.wrap ((M.o.length:Int)+1)=((M.o.length+1:Nat):Int):=fN _ (by omega);have hdF:decide ((2000:Int)<((M.h.length+1:Nat):Int))=decide (2000<=(M.h.length:Int)):=decide_eq_decide.2 (by omega);have hdS:decide ((2000:Int)<((M.r.length+1:Nat):Int))=decide (2000<=(M.r.length:Int)):=decide_eq_decide.2 (by omega);have hdV:decide ((100:Int)<((M.o.length+1:Nat):Int))=decide (100<=(M.o.length:Int)):=decide_eq_decide.2 (by omega);have CT:decide ((1:Int)<0)=false:=rfl
  rcases Dx he with e|e|e|e|e|e
  all_goals simp only[e,lz,decide_true,cond_true,cond_false,hlF,hlS,hlV,hdF,hdS,hdV,CT]
  .obtain⟨a,c',ep,hp⟩:=yx h hM hb c.i (qb (rx (KP he e)).1) o0
   rw[ep];cases M.h.any (fb c.i.a)
   .cases (dC M.h c.i.a).isSome
    .cases decide (2000<=(M.h.length:Int))
     .exact⟨_,_,_,_,rfl,hp⟩
     .exact⟨_,_,_,_,rfl,hst⟩
    .exact⟨_,_,_,_,rfl,hp⟩
   .exact⟨_,_,_,_,rfl,hst⟩
  .have hpo:eH c.i.a=true:=by
    have:=(F1 he).2.1;unfold ju at this;rw[e]at this;cases hp:eH c.i.a
    .rw[hp]at this;cases this
    .rfl
   cases hs:(dC M.h c.i.a).isSome
   .exact⟨_,_,_,_,rfl,hst⟩
   .obtain⟨a,c',ep,hp⟩:=yw h hM hb c.i.a (qb hpo) hs o0
    rw[ep];exact⟨_,_,_,_,rfl,hp⟩
  .have ha:=Am m3 c.z.k c.z
   have ha':(dF m3 c.z.k c.z).length<=274877906944:=by split at ha <;> omega
   rw[zg ha'];cases (gB M.r c.z.k).isSome
   .cases decide (2000<=(M.r.length:Int))
    .exact⟨_,_,_,_,rfl,h.put3 _⟩
    .exact⟨_,_,_,_,rfl,hst⟩
   .exact⟨_,_,_,_,rfl,h.put3 _⟩
  .cases (gB M.r c.z.k).isSome
   .exact⟨_,_,_,_,rfl,hst⟩
   .exact⟨_,_,_,_,rfl,h.del3 _⟩
  .have ha:=Am m4 c.q.w c.q
   have ha':(dF m4 c.q.w c.q).length<=274877906944:=by split at ha <;> omega
   rw[zg ha'];cases (fD M.o c.q.w).isSome
   .cases decide (100<=(M.o.length:Int))
    .exact⟨_,_,_,_,rfl,h.put4 _⟩
    .exact⟨_,_,_,_,rfl,hst⟩
   .exact⟨_,_,_,_,rfl,h.put4 _⟩
  .cases (fD M.o c.q.w).isSome
   .exact⟨_,_,_,_,rfl,hst⟩
   .exact⟨_,_,_,_,rfl,h.del4 _⟩
 .rw[decide_eq_false he]
  exact⟨_,_,_,_,rfl,hst⟩
theorem NJ(h:Bn b m1 m2 m3 m4 M)(hM:Good M):CE M.y m1 m2 m3 m4=some M:=by
 have h1:=h.l1;have h3:=h.l3;have h4:=h.l4;have hc1:=hM.c1;have hc2:=hM.c2;have hc3:=hM.c3;have hc4:=hM.c4;unfold CE My Mw Mv;rw[NM _ (by omega)];have e1:zO m1=some ():=rfl;have e2:zC m3=some ():=rfl;have e3:zD m4=some ():=rfl;rw[e1,e2,e3];simp only[dH,ze];have f1:=Gw (Z:=List ab) (g:=gF) (d:=eE) (m:=m1) (k:=some) (fun _ _ _ _ _=>rfl) (by omega);have f2:=Gw (Z:=List aa) (g:=fun _ v=>v) (d:=eI) (m:=m3) (k:=some) (fun _ _ _ _ _=>rfl) (by omega);have f3:=Gw (Z:=List ai) (g:=gV) (d:=eC) (m:=m4) (k:=some) (fun _ _ _ _ _=>rfl) (by omega);rw[h.e1]at f1;rw[h.e3]at f2;rw[h.e4]at f3;refine(congrArg (fun q=>call q _) f1).trans ?_;rw[ze];refine(congrArg (fun q=>call q _) f2).trans ?_;rw[ze];refine(congrArg (fun q=>call q _) f3).trans ?_;rfl
end
end Go.Md

