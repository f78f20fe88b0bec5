/- Plain lemmas on the models: the law's model answers true (second part). -/
import Derived.Test.YteofmaagnphonaaGreatDoorKlPl
set_option linter.unusedSimpArgs false
set_option linter.unusedVariables false
set_option linter.unusedSectionVars false
open List
namespace Go.Md
open Go.Vc
theorem vq{l:List aa}(c:(l.map fun h=>(h.q,mZ h)).Nodup){x y:aa}(hx:x∈l)(d:y∈l)(e:leH x y)(f:leH y x):x=y:=by
 have m:=leH_le.1 e;have n:=leH_le.1 f;have o:=AK x.q x.g x.a y.q y.g y.a;obtain⟨i,b,j⟩:=V4 (show gS x.q x.g x.a y.q y.g y.a=0 by omega);rw[k5,k5]at b;have k:(fun h:aa=>(h.q,mZ h)) x=(fun h:aa=>(h.q,mZ h)) y:=by simp only[mZ];rw[i,j,b]
 exact jY (fun h:aa=>(h.q,mZ h)) c x hx y d k
def mK(l:List aa):List aa:=l.mergeSort fun x y=>decide (leH x y)
theorem MW(l:List aa):(mK l).Perm l:=mergeSort_perm l _
theorem mJ(l:List aa):(mK l).Pairwise leH:=by
 have:=pairwise_mergeSort (le:=fun x y:aa=>decide (leH x y)) (fun a b c d e=>by
  have f:=leH_le.1 (of_decide_eq_true d);have i:=leH_le.1 (of_decide_eq_true e);exact decide_eq_true (leH_le.2 (Uz f i))) (fun a b=>by
  have j:=AK a.q a.g a.a b.q b.g b.a;rw[Bool.or_eq_true];rcases Int.le_total (gS a.q a.g a.a b.q b.g b.a) 0 with h|h
  .exact .inl (decide_eq_true (leH_le.2 h))
  .exact .inr (decide_eq_true (leH_le.2 (by omega)))) l
 exact List.Pairwise.imp (fun h=>of_decide_eq_true h) this
section
variable {Z A S α:Type}
end
theorem Ad(o:eo):Xs o=some ():=rfl
theorem VH(s o:eo)(h:(o++s).length<=274877906944):zw s o=some ((s.length:Int),o++s):=by unfold zw;rw[Ad,zf,zj h]
theorem yN(g a:eo)(l:List eo)(w:g.length<=1)(J:l.length<=8000000)(K:a.length+(l.map List.length).sum<=270000000000):xO (a::l) g=some (a++(l.map (g++·)).flatten):=by
 unfold xO;simp only[eJ];rw[te (decide_eq_false (by simp;omega))];rcases l with _|⟨b,l⟩
 .rw[rt (decide_eq_true (show(([a]:List eo).length:Int)=1 from rfl))];show fq [a] ((0:Nat):Int) _=_;rw[oF (by simp)];simp
 rw[te (decide_eq_false (by simp;omega))];simp only[length_cons]at J;have r:∀(q:List eo) (i:Nat) (n:Nat) (k:Int->Option eo),n+(q.map List.length).sum<=274877906000 ->
   forL q i (fun y j f m z=>bif decide ((IntKind.i64.wrap (9223372036854775807-f))<(j.length:Int))then none else m (IntKind.i64.wrap (f+(j.length:Int)))) (n:Int) k=k ((n+(q.map List.length).sum:Nat):Int):=by
  intro q;induction q with
  |nil=>intro i n k h;simp[forL]
  |cons x q G =>
   intro i n k h;simp only[map_cons,sum_cons]at h;unfold forL;dsimp only;rw[iD (n:=9223372036854775807-(n:Int)) (by omega) (by omega),te (decide_eq_false (by omega)),show(n:Int)+(x.length:Int)=((n+x.length:Nat):Int)by omega,mv _ (by omega)];rw[G (i+1) (n+x.length) k (by omega)];simp only[map_cons,sum_cons,Nat.add_assoc]
 have L:∀(q:List eo) (i:Nat) (o:eo),q.length<=8000000->o.length+(q.map List.length).sum+q.length<=274877906944 ->
   forL q i (fun A s e p B =>
    call (zw g e) fun t =>
    call (zw s t.2) fun u =>
    p u.2) o (fun e=>call (Be e) fun v=>some v)=some (o++(q.map (g++·)).flatten):=by
  intro q;induction q with
  |nil=>intro i o _ h;simp[forL,Be,zf]
  |cons x q G =>
   intro i o H h;simp only[map_cons,sum_cons,length_cons]at h H;unfold forL;dsimp only;rw[VH _ _ (by simp;omega),zf];dsimp only;rw[VH _ _ (by simp;omega),zf];dsimp only;rw[G _ _ (by omega) (by simp;omega)];simp
 simp only[map_cons,sum_cons]at K;have C:∀F:Nat,F<=8000001->forL (a::b::l) 0 (fun y j f m z=>bif decide ((IntKind.i64.wrap (9223372036854775807-f))<(j.length:Int))then none else m (IntKind.i64.wrap (f+(j.length:Int)))) (F:Int) (fun f=>call (Po f []) fun I =>
   fq (a::b::l) 0 fun D =>
   call (zw D []) fun E =>
   ey (0<=1/\1<=((a::b::l).length:Int)) <|
   forL (List.drop 1 (a::b::l)) 0 (fun A s e p B =>
    call (zw g e) fun t =>
    call (zw s t.2) fun u =>
    p u.2) E.2 (fun e=>call (Be e) fun v=>some v))=some (a++((b::l).map (g++·)).flatten):=fun F P=>by
  rw[r (a::b::l) 0 F _ (by simp;omega)];unfold Po;rw[zj (by simp;omega),zf];show fq (a::b::l) ((0:Nat):Int) _=_;rw[oF (by simp),getElem_cons_zero,VH _ _ (by simp;omega),zf,zj (by simp;omega)];dsimp only;rw[drop_succ_cons,drop_zero,L (b::l) 0 _ (by simp;omega) (by simp;omega)];simp
 rcases g with _|⟨c,_|⟨d,g⟩⟩
 .rw[te (by decide)];exact C 0 (by omega)
 .rw[rt (decide_eq_true (by simp))];have M:IntKind.i64.wrap (((a::b::l).length:Int)-1)=((l.length+1:Nat):Int):=by rw[length_cons,length_cons,iD (by omega) (by omega)];omega
  rw[M,zj (by omega)];have Q:1<IntKind.i64.wrap (Int.tdiv 9223372036854775807 ((l.length+1:Nat):Int)):=by
   have H:Int.tdiv 9223372036854775807 ((l.length+1:Nat):Int)=((9223372036854775807 / (l.length+1):Nat):Int):=by rw[Int.tdiv_eq_ediv_of_nonneg (by decide)];rfl
   have R:9223372036854775807 / 8000001<=9223372036854775807 / (l.length+1):=Nat.div_le_div_left (by omega) (by omega);have N:9223372036854775807 / (l.length+1)<=9223372036854775807:=Nat.div_le_self _ _;rw[H,mv _ N];have:2<=9223372036854775807 / 8000001:=by decide
   omega
  rw[te (decide_eq_false (by simp only[length_singleton];omega))];have O:IntKind.i64.wrap (0+(IntKind.i64.wrap ((([c]:eo).length:Int)*((l.length+1:Nat):Int))))=((l.length+1:Nat):Int):=by rw[show(([c]:eo).length:Int)=1 from rfl,Int.one_mul,mv _ (by omega),Int.zero_add,mv _ (by omega)]
  rw[O];exact C (l.length+1) (by omega)
 .simp at w
def jC(c:UInt8):List eo->List eo
 |[]=>[]
 |[x]=>[x]
 |x::y::r=>(x++[c])::jC c (y::r)
theorem wK(c:UInt8)(x:eo){l:List eo}(h:l≠[]):jC c (x::l)=(x++[c])::jC c l:=by
 cases l with
 |nil=>exact absurd rfl h
 |cons y r=>rfl
theorem zoE(s:eo)(c:UInt8)(B:s.length<=17179869184):LS s [c]=some (jC c (fD c s)):=by
 have q:=count_le_length (a:=c) (l:=s);have h:Ba s [c] 1 (-1)=some (jC c (fD c s)):=by
  unfold Ba;obtain⟨N,j⟩:∃N,fv=N:=⟨_,rfl⟩;have r:1099511627776<=N:=j ▸ xa;rw[j];clear j;have f:min ((s.count c+1:Nat):Int) ((s.length+1:Nat):Int)=((s.count c+1:Nat):Int):=by omega
  simp only[eJ,nU,zf,show decide ((-1:Int)=0)=false from rfl,show decide ((-1:Int)<0)=true from rfl,show decide (([c]:eo)=[])=false from rfl,cond_true,cond_false];simp only[fJ (s.count c) (by omega),fJ s.length (by omega),f];rw[zj (by omega)];have u:IntKind.i64.wrap (((s.count c+1:Nat):Int)-1)=((s.count c:Nat):Int):=by rw[iD (by omega) (by omega)];omega
  simp only[u,Int.toNat_natCast];refine(tr (S:=eo×Int×List eo) (fun e=>∃i:Nat,e.2.1=i/\e.2.2.length=s.count c+1/\e.1.length<=s.length/\i+e.1.count c=s.count c) (fun e=>s.count c-e.2.1.toNat)
   (fun e=>some (e.2.2.take e.2.1.toNat++jC c (fD c e.1))) ?_ N _ ⟨0,rfl,by simp,Nat.le_refl _,by simp⟩ (by simp only;omega)).trans ?_
  .rintro⟨t,C,o⟩ nx ⟨i,rfl,n,v,w⟩ g;simp only at n v w g|-;simp only[nr,zf];by_cases hi:i<s.count c
   .have d:c∈t:=by rw[<-count_pos_iff];omega
    obtain⟨p,x,D⟩:=AR d;have E:=(Wl c t).2.2 p;obtain⟨F,y⟩:=YA d;rw[decide_eq_true (by omega),cond_true,nq d,decide_eq_false (by omega),cond_false];have k:IntKind.i64.wrap (((fu c t).1.length:Int)+1)=(((fu c t).1.length+1:Nat):Int):=fJ _ (by omega);have m:IntKind.i64.wrap (((fu c t).1.length:Int)+(([c]:eo).length:Int))=(((fu c t).1.length+1:Nat):Int):=fJ _ (by omega);simp only[k,m,fJ i (by omega),Int.toNat_natCast];rw[zj (by omega),zj (by omega),zj (by omega)];have z:=ZH d;have A:t.take ((fu c t).1.length+1)=(fu c t).1++[c]:=by
     have:∀a b:eo,(a++c::b).take (a.length+1)=a++[c]:=by intro a b;simp[take_append];exact take_of_length_le (by omega)
     exact(congrArg (List.take _) x).trans (this _ _)
    simp only[A,y];rw[g _ ⟨i+1,rfl,by simpa using n,by simp only;omega,by simp only;omega⟩ (by simp only[Int.toNat_natCast];omega)];simp only[Int.toNat_natCast];rw[MH o i _ (by omega)];congr 1;rw[show fD c t=(fu c t).1::fD c (fu c t).2.1 by rw[WR,if_pos p],wK c _ (WC c _)];simp
   .obtain rfl:i=s.count c:=by omega
    rw[decide_eq_false (by omega),cond_false];have d:c∉t:=by rw[<-count_pos_iff];omega
    rw[zj (by omega),fJ _ (by omega)];simp only[Int.toNat_natCast,length_set];rw[zj (by omega),MH o _ _ (by omega),Ly d];rfl
  .simp
 unfold LS;rw[show((([c]:eo).length:Nat):Int)=1 from rfl,h];rfl
section
variable {K V:Type} [DecidableEq K]
end
section
theorem nu{α:Type}[DecidableEq α]{a b:α}(y:List α)(h:b≠a):(b::y).idxOf a=y.idxOf a+1:=by simp[idxOf_cons,h,beq_false_of_ne h,cond]
variable {α β:Type} [DecidableEq α] [DecidableEq β]
def lc:List α->List α->Nat
 |[],_=>0
 |_::_,[]=>0
 |a::x,b::y=>if a=b then max (max (lc x (b::y)) (lc (a::x) y)) (1+lc x y)else max (lc x (b::y)) (lc (a::x) y)
termination_by x y=>x.length+y.length
theorem ls(y:List α):lc [] y=0:=by unfold lc;rfl
theorem T4(x:List α):lc x []=0:=by cases x <;> unfold lc <;> rfl
theorem BM(a:α)(x:List α)(b:α)(y:List α):lc (a::x) (b::y)=if a=b then max (max (lc x (b::y)) (lc (a::x) y)) (1+lc x y)else max (lc x (b::y)) (lc (a::x) y):=by rw[lc]
theorem Rs(x:List α)(b:α)(y:List α):lc x y<=lc x (b::y):=by
 cases x with
 |nil=>rw[ls];omega
 |cons a x=>rw[BM];split <;> omega
theorem XT(a:α)(x y:List α):lc x y<=lc (a::x) y:=by
 cases y with
 |nil=>rw[T4];omega
 |cons b y=>rw[BM];split <;> omega
theorem vr(a:α)(x:List α):∀y:List α,lc (a::x) y<=1+lc x y
 |[]=>by rw[T4];omega
 |b::y=>by
  have:=vr a x y;have:=Rs x b y;rw[BM];split <;> omega
theorem VT(a:α)(x:List α):∀y:List α,lc (a::x) y=if y.idxOf a<y.length then max (lc x y) (1+lc x (y.drop (y.idxOf a+1)))else lc x y
 |[]=>by simp[T4]
 |b::y=>by
  have c:=VT a x y;have d:=vr a x y;have f:=Rs x b y;by_cases e:a=b
  .subst e;rw[BM,if_pos rfl,idxOf_cons_self,if_pos (by simp)];simp only[Nat.zero_add,drop_succ_cons,drop_zero];omega
  .have hi:(b::y).idxOf a=y.idxOf a+1:=nu y (Ne.symm e);rw[BM,if_neg e,hi,c];simp only[length_cons,drop_succ_cons];by_cases h:y.idxOf a<y.length
   .rw[if_pos h,if_pos (by omega)];omega
   .rw[if_neg h,if_neg (by omega)];omega
theorem qM(x:List α):∀y:List α,lc x y<=x.length:=by
 induction x with
 |nil=>intro y;rw[ls];exact Nat.zero_le _
 |cons a x b=>intro y;have:=vr a x y;have:=b y;simp only[length_cons];omega
def gr:List α->List α->Nat->Nat->List (Nat×Nat)
 |[],_,_,_=>[]
 |a::x,y,i,j=>if y.idxOf a<y.length/\1+lc x (y.drop (y.idxOf a+1))=lc (a::x) y then(i,j+y.idxOf a)::gr x (y.drop (y.idxOf a+1)) (i+1) (j+y.idxOf a+1)else gr x y (i+1) j
theorem yV(a:α)(x y:List α)(i j:Nat):gr (a::x) y i j=if y.idxOf a<y.length/\1+lc x (y.drop (y.idxOf a+1))=lc (a::x) y then(i,j+y.idxOf a)::gr x (y.drop (y.idxOf a+1)) (i+1) (j+y.idxOf a+1)else gr x y (i+1) j:=rfl
theorem qX:∀(x y:List α) (i j:Nat),lc x y=0->gr x y i j=[]
 |[],_,_,_,_=>rfl
 |a::x,y,i,j,h=>by have:=XT a x y;unfold gr;rw[if_neg (by omega)];exact qX x y (i+1) j (by omega)
theorem yK(a:α)(x y:List α)(h:¬ (y.idxOf a<y.length/\1+lc x (y.drop (y.idxOf a+1))=lc (a::x) y)):lc (a::x) y=lc x y:=by
 have:=VT a x y;by_cases b:y.idxOf a<y.length
 .rw[if_pos b]at this;have c:¬ 1+lc x (y.drop (y.idxOf a+1))=lc (a::x) y:=fun e=>h ⟨b,e⟩;omega
 .rw[if_neg b]at this;exact this
theorem yJ(a:α)(x y:List α)(b:y.idxOf a<y.length):1+lc x (y.drop (y.idxOf a+1))=lc (a::x) y↔lc (a::x) y<=1+lc x (y.drop (y.idxOf a+1)):=by have:=VT a x y;rw[if_pos b]at this;omega
inductive Up(x y:List α):Nat->Nat->List (Nat×Nat)->Prop
 |nil (i j:Nat):Up x y i j []
 |cons {i j p q:Nat} {l:List (Nat×Nat)} (h1:i<=p) (h2:j<=q) (hp:p<x.length) (hq:q<y.length) (he:x[p]=y[q]) (hl:Up x y (p+1) (q+1) l):Up x y i j ((p,q)::l)
theorem Up.mono{x y:List α}{i j g k:Nat}{l:List (Nat×Nat)}(h:Up x y i j l)(m:g<=i)(n:k<=j):Up x y g k l:=by
 cases h with
 |nil=>exact .nil _ _
 |cons a b c d e f=>exact .cons (by omega) (by omega) c d e f
theorem vG(X Y:List α):∀(x y:List α) (i j:Nat),x=X.drop i->y=Y.drop j->Up X Y i j (gr x y i j)
 |[],_,i,j,_,_=>.nil i j
 |a::x,y,i,j,hx,c=>by
  have d:i<X.length:=by
   apply Nat.lt_of_not_le;intro h;rw[drop_eq_nil_of_le h]at hx;cases hx
  have b:X[i]=a/\x=X.drop (i+1):=by
   rw[drop_eq_getElem_cons d]at hx;cases hx;exact⟨rfl,rfl⟩
  unfold gr;split
  .rename_i h
   have e:j+y.idxOf a<Y.length:=by
    have:=h.1;rw[c,length_drop]at this;rw[c];omega
   refine .cons (Nat.le_refl _) (by omega) d e ?_ ?_
   .have f:=getElem_idxOf h.1;refine b.1.trans (f.symm.trans ?_);simp only[c,getElem_drop]
   .exact vG X Y x _ _ _ b.2 (by rw[c,drop_drop,<-c];congr 1)
  .exact(vG X Y x y (i+1) j b.2 c).mono (by omega) (Nat.le_refl _)
def ru(y:List α):List α->Nat->Option Nat
 |[],j=>some j
 |e::a,j=>if (y.drop j).idxOf e<(y.drop j).length then ru y a (j+(y.drop j).idxOf e+1)else none
theorem uJ(y:List α)(e:α):∀(b:List α) (j:Nat),ru y (b++[e]) j=match ru y b j with
  |some k=>if (y.drop k).idxOf e<(y.drop k).length then some (k+(y.drop k).idxOf e+1)else none
  |none=>none
 |[],j=>rfl
 |a::b,j=>by
  simp only[cons_append,ru];split
  .exact uJ y e b _
  .rfl
theorem qZ:∀(x y:List α) (i j p q:Nat) (l:List (Nat×Nat)),gr x y i j=(p,q)::l->∃d,∃h:d<x.length,p=i+d/\y.idxOf x[d]<y.length/\q=j+y.idxOf x[d]/\l=gr (x.drop (d+1)) (y.drop (y.idxOf x[d]+1)) (p+1) (q+1)
 |[],y,i,j,p,q,l,h=>by simp[gr]at h
 |a::x,y,i,j,p,q,l,h=>by
  rw[yV]at h;split at h
  .rename_i b;cases h;exact⟨0,by simp,by omega,b.1,rfl,rfl⟩
  .obtain⟨d,g,k,c,e,f⟩:=qZ x y (i+1) j p q l h;exact⟨d+1,by simp;omega,by omega,c,e,f⟩
def fo(a:α)(y:List α):Nat:=y.idxOf a
theorem JR(a:α):fo a []=0:=by simp[fo]
theorem ra(a:α)(y:List α):fo a (a::y)=0:=idxOf_cons_self
theorem Bq{a b:α}(y:List α)(h:b≠a):fo a (b::y)=fo a y+1:=nu y h
theorem SZ(a:α)(y:List α):fo a y<=y.length:=idxOf_le_length
theorem ye(y:List α)(e:α)(a:List α)(j:Nat):ru y (e::a) j=if fo e (y.drop j)<(y.drop j).length then ru y a (j+fo e (y.drop j)+1)else none:=rfl
theorem nB(a:α)(x y:List α)(i j:Nat):gr (a::x) y i j=if fo a y<y.length/\1+lc x (y.drop (fo a y+1))=lc (a::x) y then(i,j+fo a y)::gr x (y.drop (fo a y+1)) (i+1) (j+fo a y+1)else gr x y (i+1) j:=rfl
end
def fl(s:eo):List eo:=bif decide ((jC 10 (fD 10 s)).getLast?=some [])then(jC 10 (fD 10 s)).dropLast else jC 10 (fD 10 s)
theorem l6(c:UInt8):∀l:List eo,(jC c l).length=l.length
 |[]=>rfl
 |[x]=>rfl
 |x::y::r=>by simp only[jC,length_cons,l6 c (y::r)]
theorem pJ(s:eo)(f:s.length<=17179869184):(call (LS s ([10]:eo)) fun b =>
 fq b (IntKind.i64.wrap ((b.length:Int)-1)) fun c =>
 bif decide (c=[])then
  ey (0<=IntKind.i64.wrap ((b.length:Int)-1)/\IntKind.i64.wrap ((b.length:Int)-1)<=(b.length:Int)) <|
  some (List.take ((IntKind.i64.wrap ((b.length:Int)-1)).toNat) b)
 else
 some b)=some (fl s):=by
 rw[zoE s 10 f,zf];unfold fl;have d:(jC 10 (fD 10 s)).length=s.count 10+1:=by rw[l6,ZB]
 have g:=count_le_length (a:=(10:UInt8)) (l:=s);have h:jC 10 (fD 10 s)≠[]:=fun e=>by rw[e]at d;simp at d
 generalize jC 10 (fD 10 s)=l at *;rw[AC l.length (by omega) (by omega),oF (by omega),getLast?_eq_getElem?,getElem?_eq_getElem (by omega)];simp only[Option.some.injEq];cases decide (l[l.length-1]=[])
 .rfl
 .simp only[cond_true];rw[zj (by omega),Int.toNat_natCast,dropLast_eq_take]
theorem Nk(s:eo)(a:s.length<=17179869184):xF s=some (fl s):=pJ s a
theorem pK(s:eo):(fl s).length<=s.length+1:=by
 have c:(jC 10 (fD 10 s)).length=s.count 10+1:=by rw[l6,ZB]
 have b:=count_le_length (a:=(10:UInt8)) (l:=s);unfold fl;cases decide ((jC 10 (fD 10 s)).getLast?=some [])
 .simp only[cond_false];omega
 .simp only[cond_true,length_dropLast];omega
theorem ou(c:UInt8):∀l:List eo,(jC c l).flatten=List.intercalate [c] l
 |[]=>rfl
 |[x]=>by simp[jC,List.intercalate]
 |x::y::r=>by have:=ou c (y::r);simp only[jC,flatten_cons,this,List.intercalate,List.intersperse];simp
theorem Zo(c:UInt8):∀(n:Nat) (s:eo),s.length<=n->List.intercalate [c] (fD c s)=s
 |0,s,h=>by
  obtain rfl:s=[]:=length_eq_zero_iff.1 (by omega);rw[Ly (by simp)];simp[List.intercalate]
 |n+1,s,h=>by
  by_cases d:c∈s
  .obtain⟨e,f,g⟩:=AR d;have i:=(Wl c s).2.2 e;rw[WR,if_pos e];have b:=Zo c n (fu c s).2.1 (by omega);have a:=WC c (fu c s).2.1;generalize fD c (fu c s).2.1=q at b a;cases q with
   |nil=>exact absurd rfl a
   |cons y r =>
    simp only[List.intercalate,List.intersperse]at b|-;rw[flatten_cons,flatten_cons,b];conv=>rhs;rw[f]
    simp
  .rw[Ly d];simp[List.intercalate]
theorem nc(s:eo):(fl s).flatten=s:=by
 have h:(jC 10 (fD 10 s)).flatten=s:=by rw[ou,Zo 10 s.length s (Nat.le_refl _)]
 unfold fl;generalize jC 10 (fD 10 s)=l at *;by_cases e:l.getLast?=some []
 .rw[decide_eq_true e,cond_true];rw[getLast?_eq_some_iff]at e;obtain⟨q,rfl⟩:=e;simpa using h
 .rw[decide_eq_false e,cond_false];exact h
def Gt(f:Nat->Nat->Int)(n m:Nat):List (List Int):=(List.range n).map fun i=>(List.range m).map (f i)
theorem KC(f:Nat->Nat->Int)(n m:Nat):(Gt f n m).length=n:=by simp[Gt]
theorem p8(f:Nat->Nat->Int){n m i:Nat}(h:i<n):(Gt f n m).getD i []=(List.range m).map (f i):=by simp[Gt,getD_eq_getElem?_getD,h]
theorem BO(f:Nat->Nat->Int){n m i:Nat}(h:i<n):((Gt f n m).getD i []).length=m:=by rw[p8 f h];simp
theorem i4(f:Nat->Nat->Int){n m i j:Nat}(h:i<n)(a:j<m):((Gt f n m).getD i []).getD j 0=f i j:=by rw[p8 f h];simp[getD_eq_getElem?_getD,a]
theorem T5{f g:Nat->Nat->Int}{n m:Nat}(h:∀i j,i<n->j<m->f i j=g i j):Gt f n m=Gt g n m:=by
 unfold Gt;refine map_congr_left fun i hi=>map_congr_left fun j a=>?_;exact h i j (mem_range.1 hi) (mem_range.1 a)
theorem wO(f:Nat->Nat->Int){n m i j:Nat}(h:i<n)(g:j<m)(v:Int):List.set (Gt f n m) i (List.set ((Gt f n m).getD i []) j v)=Gt (fun a b=>if a=i/\b=j then v else f a b) n m:=by
 rw[p8 f h];apply ext_getElem
 .simp[Gt]
 .intro a d k;simp only[length_set,KC]at d;rw[getElem_set];simp only[Gt,getElem_map,getElem_range];split
  .rename_i e;subst e;apply ext_getElem
   .simp
   .intro b l o;rw[getElem_set];simp only[getElem_map,getElem_range,true_and];by_cases c:j=b
    .subst c;simp
    .rw[if_neg c,if_neg (Ne.symm c)]
  .rename_i e;refine map_congr_left fun b _=>?_;rw[if_neg fun h=>e h.1.symm]
section
variable {α:Type} [DecidableEq α]
def Ft(x y:List α)(i k:Nat):Nat->Nat->Int:=fun a b=>if i<a∨(a=i/\k<=b)then((lc (x.drop a) (y.drop b):Nat):Int)else 0
theorem xo(x y:List α){i k a b:Nat}(h:i<a∨(a=i/\k<=b)):Ft x y i k a b=((lc (x.drop a) (y.drop b):Nat):Int):=if_pos h
theorem TP{x y:List α}{i k:Nat}(hi:i<x.length)(d:k<y.length)(e:x[i]≠y[k]):Gt (fun a b=>if a=i/\b=k then max (Ft x y i (k+1) (i+1) k) (Ft x y i (k+1) i (k+1))else Ft x y i (k+1) a b) (x.length+1) (y.length+1)=Gt (Ft x y i k) (x.length+1) (y.length+1):=by
 refine T5 fun a b f g=>?_;by_cases h:a=i/\b=k
 .obtain⟨rfl,rfl⟩:=h;rw[if_pos ⟨rfl,rfl⟩,xo x y (.inl (by omega)),xo x y (.inr ⟨rfl,by omega⟩),xo x y (.inr ⟨rfl,by omega⟩),drop_eq_getElem_cons hi,drop_eq_getElem_cons d,BM,if_neg e];omega
 .rw[if_neg h];unfold Ft;by_cases c:i<a∨(a=i/\k+1<=b)
  .rw[if_pos c,if_pos (by omega)]
  .rw[if_neg c,if_neg (by omega)]
theorem TQ{x y:List α}{i k:Nat}(hi:i<x.length)(e:k<y.length)(f:x[i]=y[k]){g:Nat->Nat->Int}(c:∀a b,g a b=if a=i/\b=k then max (Ft x y i (k+1) (i+1) k) (Ft x y i (k+1) i (k+1))else Ft x y i (k+1) a b) :
  Gt (fun a b=>if a=i/\b=k then max (g i k) (1+g (i+1) (k+1))else g a b) (x.length+1) (y.length+1)=Gt (Ft x y i k) (x.length+1) (y.length+1):=by
 refine T5 fun a b j l=>?_;by_cases h:a=i/\b=k
 .obtain⟨rfl,rfl⟩:=h;rw[if_pos ⟨rfl,rfl⟩,c,c,if_pos ⟨rfl,rfl⟩,if_neg (by omega),xo x y (.inl (by omega)),xo x y (.inr ⟨rfl,by omega⟩),xo x y (.inl (by omega)),xo x y (.inr ⟨rfl,by omega⟩),drop_eq_getElem_cons hi,drop_eq_getElem_cons e,BM,if_pos f];omega
 .rw[if_neg h,c,if_neg h];unfold Ft;by_cases d:i<a∨(a=i/\k+1<=b)
  .rw[if_pos d,if_pos (by omega)]
  .rw[if_neg d,if_neg (by omega)]
theorem Au{x y:List α}{i:Nat}(hi:i<=x.length):Gt (Ft x y (i+1) 0) (x.length+1) (y.length+1)=Gt (Ft x y i y.length) (x.length+1) (y.length+1):=by
 refine T5 fun a b d e=>?_;unfold Ft;by_cases h:i<a
 .rw[if_pos (by omega),if_pos (by omega)]
 .rw[if_neg (by omega)];by_cases c:a=i/\y.length<=b
  .rw[if_pos (.inr c),drop_eq_nil_of_le c.2,T4];rfl
  .rw[if_neg (by omega)]
theorem wP{x y:List α}:Gt (fun _ _=>0) (x.length+1) (y.length+1)=Gt (Ft x y x.length 0) (x.length+1) (y.length+1):=by
 refine T5 fun a b c d=>?_;unfold Ft;by_cases h:x.length<a∨(a=x.length/\0<=b)
 .rw[if_pos h,drop_eq_nil_of_le (by omega),ls];rfl
 .rw[if_neg h]
theorem wS{x y:List α}{a b:Nat}:Ft x y 0 0 a b=((lc (x.drop a) (y.drop b):Nat):Int):=xo x y (by omega)
end
def jw(l:List (Nat×Nat)):List ao:=l.map fun p=>⟨p.1,p.2⟩
theorem uh{α Z:Type}[DecidableEq α](a b:List α)(l:a.length<=100000)(m:b.length<=100000)(N:Nat)(n:1099511627776<=N)(K:List (List Int)->Option Z) :
  loopN N (fun s f g =>
  match s with
  |(c,d) =>
   bif decide (c<((List.replicate ((IntKind.i64.wrap ((a.length:Int)+1)).toNat) ([]:List Int)).length:Int))then
    ey (0<=IntKind.i64.wrap ((b.length:Int)+1)/\IntKind.i64.wrap ((b.length:Int)+1)<=IntKind.i64.wrap ((b.length:Int)+1)/\IntKind.i64.wrap ((b.length:Int)+1)<=274877906944) <|
    ey (0<=c/\c<(d.length:Int)) <|
    fc (List.set d c.toNat (List.replicate ((IntKind.i64.wrap ((b.length:Int)+1)).toNat) (0:Int))) fun i =>
    f (IntKind.i64.wrap (c+1),i)
   else
   g (c,d)) ((0:Int),List.replicate ((IntKind.i64.wrap ((a.length:Int)+1)).toNat) ([]:List Int)) (fun s=>match s with
  |(c,d) =>
   K d)=K (Gt (Ft a b a.length 0) (a.length+1) (b.length+1)):=by
 rw[fJ a.length (by omega),fJ b.length (by omega)];simp only[Int.toNat_natCast];refine tr (S:=Int×List (List Int)) (fun s=>∃t:Nat,s.1=t/\t<=a.length+1/\s.2=(List.range (a.length+1)).map fun p=>if p<t then List.replicate (b.length+1) 0 else []) (fun s=>a.length+1-s.1.toNat) (fun _=>K (Gt (Ft a b a.length 0) (a.length+1) (b.length+1))) ?_ N _ ⟨0,rfl,by omega,by simp[map_const']⟩ (by simp only;omega);rintro⟨u,o⟩ nx ⟨t,rfl,v,rfl⟩ j;dsimp only[fc];by_cases h:t<a.length+1
 .rw[decide_eq_true (by simp;omega),cond_true,zj (by omega),zj (by simp;omega),fJ t (by omega)];refine j (_,_) ⟨t+1,rfl,by omega,?_⟩ (by simp only[Int.toNat_natCast];omega);apply ext_getElem
  .simp
  .intro p w x;rw[getElem_set];simp only[getElem_map,getElem_range,Int.toNat_natCast];by_cases e:t=p
   .subst e;simp
   .rw[if_neg e];by_cases k:p<t
    .rw[if_pos k,if_pos (by omega)]
    .rw[if_neg k,if_neg (by omega)]
 rw[decide_eq_false (by simp;omega),cond_false];obtain rfl:t=a.length+1:=by omega
 have q:((List.range (a.length+1)).map fun p=>if p<a.length+1 then List.replicate (b.length+1) (0:Int)else [])=Gt (Ft a b a.length 0) (a.length+1) (b.length+1):=by
  rw[<-wP];unfold Gt;refine map_congr_left fun p r=>?_;rw[if_pos (mem_range.1 r)];simp[map_const']
 rw[q]
theorem xW{α Z:Type}[DecidableEq α](a b:List α)(y:a.length<=100000)(z:b.length<=100000)(N:Nat)(A:1099511627776<=N)(i:Nat)(r:i<a.length)(K:List (List Int)->Option Z) :
  loopN N (fun s j m =>
      match s with
      |(e,f) =>
       bif decide (0<=e)then
        ey (0<=(i:Int)/\(i:Int)<(f.length:Int)) <|
        ey (0<=IntKind.i64.wrap ((i:Int)+1)/\IntKind.i64.wrap ((i:Int)+1)<(f.length:Int)) <|
        ey (0<=e/\e<((f.getD ((IntKind.i64.wrap ((i:Int)+1)).toNat) []).length:Int)) <|
        ey (0<=(i:Int)/\(i:Int)<(f.length:Int)) <|
        ey (0<=IntKind.i64.wrap (e+1)/\IntKind.i64.wrap (e+1)<((f.getD (i:Int).toNat []).length:Int)) <|
        ey (0<=e/\e<((f.getD (i:Int).toNat []).length:Int)) <|
        fc (List.set f (i:Int).toNat (List.set (f.getD (i:Int).toNat []) e.toNat (max ((f.getD ((IntKind.i64.wrap ((i:Int)+1)).toNat) []).getD e.toNat 0) ((f.getD (i:Int).toNat []).getD ((IntKind.i64.wrap (e+1)).toNat) 0)))) fun h =>
        fq a (i:Int) fun n =>
        fq b e fun p =>
        bif decide (n=p)then
         ey (0<=(i:Int)/\(i:Int)<(h.length:Int)) <|
         ey (0<=(i:Int)/\(i:Int)<(h.length:Int)) <|
         ey (0<=e/\e<((h.getD (i:Int).toNat []).length:Int)) <|
         ey (0<=IntKind.i64.wrap ((i:Int)+1)/\IntKind.i64.wrap ((i:Int)+1)<(h.length:Int)) <|
         ey (0<=IntKind.i64.wrap (e+1)/\IntKind.i64.wrap (e+1)<((h.getD ((IntKind.i64.wrap ((i:Int)+1)).toNat) []).length:Int)) <|
         ey (0<=e/\e<((h.getD (i:Int).toNat []).length:Int)) <|
         fc (List.set h (i:Int).toNat (List.set (h.getD (i:Int).toNat []) e.toNat (max ((h.getD (i:Int).toNat []).getD e.toNat 0) (IntKind.i64.wrap (1+((h.getD ((IntKind.i64.wrap ((i:Int)+1)).toNat) []).getD ((IntKind.i64.wrap (e+1)).toNat) 0)))))) fun q =>
         j (IntKind.i64.wrap (e-1),q)
        else
        j (IntKind.i64.wrap (e-1),h)
       else
       m (e,f)) (IntKind.i64.wrap ((b.length:Int)-1),Gt (Ft a b i b.length) (a.length+1) (b.length+1)) (fun s=>match s with
      |(e,f)=>K f)=K (Gt (Ft a b i 0) (a.length+1) (b.length+1)):=by
 have w:IntKind.i64.wrap ((b.length:Int)-1)=(b.length:Int)-1:=iD (by omega) (by omega);rw[w];refine tr (S:=Int×List (List Int)) (fun s=>∃k:Nat,s.1=(k:Int)-1/\k<=b.length/\s.2=Gt (Ft a b i k) (a.length+1) (b.length+1)) (fun s=>(s.1+1).toNat) (fun _=>K (Gt (Ft a b i 0) (a.length+1) (b.length+1))) ?_ N _ ⟨b.length,rfl,Nat.le_refl _,rfl⟩ (by simp only;omega);rintro⟨G,o⟩ B ⟨k,rfl,H,rfl⟩ l;dsimp only[fc];cases k with
 |succ k =>
  have C:((k+1:Nat):Int)-1=(k:Nat):=by omega
  rw[C]at l|-;have t:k<b.length:=by omega
  have D:IntKind.i64.wrap ((i:Int)+1)=((i+1:Nat):Int):=fJ i (by omega);have E:IntKind.i64.wrap ((k:Int)+1)=((k+1:Nat):Int):=fJ k (by omega);have F:IntKind.i64.wrap ((k:Int)-1)=(k:Int)-1:=iD (by omega) (by omega);rw[decide_eq_true (by omega),cond_true];simp only[D,E,F,Int.toNat_natCast,KC];rw[zj (by omega),zj (by omega),zj (by rw[BO _ (by omega)];omega),zj (by omega),zj (by rw[BO _ (by omega)];omega),zj (by rw[BO _ (by omega)];omega)];rw[i4 _ (by omega) (by omega),i4 _ (by omega) (by omega),wO _ (by omega) (by omega),oF r,oF t];by_cases v:a[i]=b[k]
  .rw[decide_eq_true v,cond_true];simp only[KC];rw[zj (by omega),zj (by omega),zj (by rw[BO _ (by omega)];omega),zj (by omega),zj (by rw[BO _ (by omega)];omega),zj (by rw[BO _ (by omega)];omega)];rw[i4 _ (by omega) (by omega),i4 _ (by omega) (by omega)];have u:(if i+1=i/\k+1=k then max (Ft a b i (k+1) (i+1) k) (Ft a b i (k+1) i (k+1))else Ft a b i (k+1) (i+1) (k+1))=((lc (a.drop (i+1)) (b.drop (k+1)):Nat):Int):=by rw[if_neg (by omega)];exact xo a b (.inl (by omega))
   have x:=qM (a.drop (i+1)) (b.drop (k+1));simp only[length_drop]at x;rw[u,iD (by omega) (by omega),<-u,wO _ (by omega) (by omega)];have:=TQ (g:=fun c d=>if c=i/\d=k then max (Ft a b i (k+1) (i+1) k) (Ft a b i (k+1) i (k+1))else Ft a b i (k+1) c d) r t v fun _ _=>rfl;exact l (_,_) ⟨k,rfl,by omega,this⟩ (by simp only;omega)
  .rw[decide_eq_false v,cond_false];exact l (_,_) ⟨k,rfl,by omega,TP r t v⟩ (by simp only;omega)
 |zero=>rw[decide_eq_false (by omega),cond_false]
theorem xX{α Z:Type}[DecidableEq α](a b:List α)(u:a.length<=100000)(v:b.length<=100000)(N:Nat)(w:1099511627776<=N)(K:List (List Int)->Option Z) :
  loopN N (fun s j l =>
   match s with
   |(c,g) =>
    bif decide (0<=c)then
     jp (S:=List (List Int)) (fun k =>
      j (IntKind.i64.wrap (c-1),k)) fun m =>
     loopN N (fun s h n =>
      match s with
      |(d,e) =>
       bif decide (0<=d)then
        ey (0<=c/\c<(e.length:Int)) <|
        ey (0<=IntKind.i64.wrap (c+1)/\IntKind.i64.wrap (c+1)<(e.length:Int)) <|
        ey (0<=d/\d<((e.getD ((IntKind.i64.wrap (c+1)).toNat) []).length:Int)) <|
        ey (0<=c/\c<(e.length:Int)) <|
        ey (0<=IntKind.i64.wrap (d+1)/\IntKind.i64.wrap (d+1)<((e.getD c.toNat []).length:Int)) <|
        ey (0<=d/\d<((e.getD c.toNat []).length:Int)) <|
        fc (List.set e c.toNat (List.set (e.getD c.toNat []) d.toNat (max ((e.getD ((IntKind.i64.wrap (c+1)).toNat) []).getD d.toNat 0) ((e.getD c.toNat []).getD ((IntKind.i64.wrap (d+1)).toNat) 0)))) fun f =>
        fq a c fun p =>
        fq b d fun q =>
        bif decide (p=q)then
         ey (0<=c/\c<(f.length:Int)) <|
         ey (0<=c/\c<(f.length:Int)) <|
         ey (0<=d/\d<((f.getD c.toNat []).length:Int)) <|
         ey (0<=IntKind.i64.wrap (c+1)/\IntKind.i64.wrap (c+1)<(f.length:Int)) <|
         ey (0<=IntKind.i64.wrap (d+1)/\IntKind.i64.wrap (d+1)<((f.getD ((IntKind.i64.wrap (c+1)).toNat) []).length:Int)) <|
         ey (0<=d/\d<((f.getD c.toNat []).length:Int)) <|
         fc (List.set f c.toNat (List.set (f.getD c.toNat []) d.toNat (max ((f.getD c.toNat []).getD d.toNat 0) (IntKind.i64.wrap (1+((f.getD ((IntKind.i64.wrap (c+1)).toNat) []).getD ((IntKind.i64.wrap (d+1)).toNat) 0)))))) fun r =>
         h (IntKind.i64.wrap (d-1),r)
        else
        h (IntKind.i64.wrap (d-1),f)
       else
       n (d,e)) (IntKind.i64.wrap ((b.length:Int)-1),g) (fun s=>match s with
      |(d,e)=>m e)
    else
    l (c,g)) (IntKind.i64.wrap ((a.length:Int)-1),Gt (Ft a b a.length 0) (a.length+1) (b.length+1)) (fun s=>match s with
   |(c,g)=>K g)=K (Gt (Ft a b 0 0) (a.length+1) (b.length+1)):=by
 have x:IntKind.i64.wrap ((a.length:Int)-1)=(a.length:Int)-1:=iD (by omega) (by omega);rw[x];refine tr (S:=Int×List (List Int)) (fun s=>∃i:Nat,s.1=(i:Int)-1/\i<=a.length/\s.2=Gt (Ft a b i 0) (a.length+1) (b.length+1)) (fun s=>(s.1+1).toNat) (fun _=>K (Gt (Ft a b 0 0) (a.length+1) (b.length+1))) ?_ N _ ⟨a.length,rfl,Nat.le_refl _,rfl⟩ (by simp only;omega);rintro⟨z,o⟩ nx ⟨i,rfl,hi,rfl⟩ t;dsimp only;cases i with
 |succ i =>
  have y:((i+1:Nat):Int)-1=(i:Nat):=by omega
  rw[y]at t|-;rw[decide_eq_true (by omega),cond_true,Au (by omega),eJ];refine(xW a b u v N w i (by omega) fun o=>nx (IntKind.i64.wrap ((i:Int)-1),o)).trans ?_;refine t (_,_) ⟨i,iD (by omega) (by omega),by omega,rfl⟩ ?_;simp only;rw[iD (by omega) (by omega)];omega
 |zero=>rw[decide_eq_false (by omega),cond_false]
theorem yG{A Z:Type}(a:A)(k:A->Option Z):fc a k=k a:=rfl
theorem oh{α Z:Type}{p:α->Prop}{k:α->Option Z}{z:Z}(a:α)(b:p a)(h:∀x,p x->k x=some z):tD p k=some z:=by have c:∃z,∀x,p x->k x=some z:=⟨z,h⟩;unfold tD;rw[dif_pos c];exact(c.choose_spec a b).symm.trans (h a b)
theorem sH(s:List Int)(h:s.length<=1000000):EV s=some s:=by
 unfold EV;refine oh false (fun e=>by cases e) fun b a=>?_;cases b with
 |true=>rw[a rfl];rfl
 |false=>rw[cond_false,nil_append,zj (by omega)]
theorem rW(x y:List eo)(n:Nat)(k:n<x.length)(o:y.length<=100000)(N:Nat)(l:1099511627776<=N)(K:Int->Option Bool)(j:Nat)(m:j<=y.length) :
  loopN N (fun a b c =>
   ey ((decide (a<(y.length:Int)))=true->(0<=a/\a<(y.length:Int))) <|
   ey ((decide (a<(y.length:Int)))=true->(0<=(n:Int)/\(n:Int)<(x.length:Int))) <|
   bif ((decide (a<(y.length:Int)))&&(!decide ((y.getD a.toNat [])=(x.getD (n:Int).toNat []))))then
    b (IntKind.i64.wrap (a+1))
   else
   c a) (j:Int) K=K ((j+fo x[n] (y.drop j):Nat):Int):=by
 refine tr (S:=Int) (fun s=>∃q:Nat,s=q/\j<=q/\q<=y.length/\q+fo x[n] (y.drop q)=j+fo x[n] (y.drop j)) (fun s=>y.length-s.toNat) (fun _=>K ((j+fo x[n] (y.drop j):Nat):Int)) ?_ N _ ⟨j,rfl,Nat.le_refl _,m,rfl⟩ (by first|omega|(simp only;omega));rintro s nx ⟨q,rfl,p,r,d⟩ f;rw[zj (fun h=>by have:=of_decide_eq_true h;omega),zj (fun _=>by omega)];simp only[Int.toNat_natCast];have hx:x.getD n []=x[n]:=by simp[getD_eq_getElem?_getD,k]
 by_cases h:q<y.length
 .have g:y.getD q []=y[q]:=by simp[getD_eq_getElem?_getD,h]
  rw[decide_eq_true (by omega),Bool.true_and];simp only[hx,g];have i:=drop_eq_getElem_cons h;by_cases e:y[q]=x[n]
  .rw[decide_eq_true e,Bool.not_true,cond_false];rw[i,e,ra]at d;congr 1;omega
  .rw[decide_eq_false e,Bool.not_false,cond_true,fJ q (by omega)];refine f _ ⟨q+1,rfl,by omega,by omega,?_⟩ (by simp only[Int.toNat_natCast];omega);rw[i,Bq _ e]at d;omega
 .rw[decide_eq_false (by omega),Bool.false_and,cond_false];obtain rfl:q=y.length:=by omega
  rw[drop_eq_nil_of_le (Nat.le_refl _)]at d;simp only[JR]at d;congr 1;omega
def iw(l:List Nat):List Int:=List.map (fun(n:Nat)=>(n:Int)) l
theorem yX(x y:List eo)(hx:x.length<=100000)(O:y.length<=100000)(g:List Nat)(i:Nat)(D:∀p∈g,p<x.length)(hi:i<x.length)(M:g.length<=100000)(left:Int) :
  BA x y (iw (g++[i])) left (Gt (Ft x y 0 0) (x.length+1) (y.length+1))=match ru y ((g++[i]).map fun p=>x.getD p []) 0 with
   |some k=>some (decide (left<=((lc (x.drop (i+1)) (y.drop k):Nat):Int)))
   |none=>some false:=by
 unfold BA;obtain⟨N,E⟩:∃N,fv=N:=⟨_,rfl⟩;have F:1099511627776<=N:=E ▸ xa;rw[E];clear E;rw[eJ];have G:∀k:Nat,k<=y.length->(fq (iw (g++[i])) (IntKind.i64.wrap (((iw (g++[i])).length:Int)-1)) fun c =>
  fq (Gt (Ft x y 0 0) (x.length+1) (y.length+1)) (IntKind.i64.wrap (c+1)) fun d =>
  fq d (k:Int) fun e =>
  some (decide (left<=e)))=some (decide (left<=((lc (x.drop (i+1)) (y.drop k):Nat):Int))):=by
  intro k V;have P:(iw (g++[i])).length=g.length+1:=by simp[iw]
  rw[AC _ (by omega) (by omega),oF (by omega)];have r:(iw (g++[i]))[(iw (g++[i])).length-1]'(by omega)=(i:Int):=by simp[iw]
  rw[r,fJ i (by omega),oF (by rw[KC];omega)];have A:(Gt (Ft x y 0 0) (x.length+1) (y.length+1))[i+1]'(by rw[KC];omega)=(List.range (y.length+1)).map (Ft x y 0 0 (i+1)):=by simp[Gt]
  rw[A,oF (by simp;omega)];simp only[getElem_map,getElem_range,wS]
 have H:∀(l:List Nat) (q:Nat) (j:Nat),(∀p∈l,p<x.length)->j<=y.length->forL (iw l) q (fun I f s n J =>
  jp (S:=Int) (fun t =>
   n t) fun u =>
  jp (S:=Int) (fun m =>
   bif decide (m=(y.length:Int))then
    some false
   else
   u (IntKind.i64.wrap (m+1))) fun v =>
  loopN N (fun b o w =>
   ey ((decide (b<(y.length:Int)))=true->(0<=b/\b<(y.length:Int))) <|
   ey ((decide (b<(y.length:Int)))=true->(0<=f/\f<(x.length:Int))) <|
   bif ((decide (b<(y.length:Int)))&&(!decide ((y.getD b.toNat [])=(x.getD f.toNat []))))then
    o (IntKind.i64.wrap (b+1))
   else
   w b) s (fun b =>
   v b)) (j:Int) (fun z =>
  fq (iw (g++[i])) (IntKind.i64.wrap (((iw (g++[i])).length:Int)-1)) fun c =>
  fq (Gt (Ft x y 0 0) (x.length+1) (y.length+1)) (IntKind.i64.wrap (c+1)) fun d =>
  fq d z fun e =>
  some (decide (left<=e)))=match ru y (l.map fun p=>x.getD p []) j with
   |some k=>some (decide (left<=((lc (x.drop (i+1)) (y.drop k):Nat):Int)))
   |none=>some false:=by
  intro l;induction l with
  |nil=>intro q j _ K;exact G j K
  |cons p l Q =>
   intro q j C K;have B:p<x.length:=C p (by simp);show jp _ _=_;rw[eJ,eJ];refine(rW x y p B O N F _ j K).trans ?_;dsimp only;have L:x.getD p []=x[p]:=by simp[getD_eq_getElem?_getD,B]
   have R:=SZ x[p] (y.drop j);have T:(y.drop j).length=y.length-j:=length_drop ..;rw[map_cons,ye,L];by_cases h:fo x[p] (y.drop j)<(y.drop j).length
   .rw[decide_eq_false (by omega),cond_false,if_pos h,fJ _ (by omega)];exact Q (q+1) _ (fun a U=>C a (by simp[U])) (by omega)
   .rw[decide_eq_true (by omega),cond_true,if_neg h]
 exact H (g++[i]) 0 0 (fun p C=>by
  rcases mem_append.1 C with h|h
  .exact D p h
  .simp at h;omega) (by omega)
theorem uA{Z:Type}(x y:List eo)(n:Nat)(m:n<x.length)(r:y.length<=100000)(N:Nat)(o:1099511627776<=N)(K:Int->Option Z)(j:Nat)(i:fo x[n] (y.drop j)<(y.drop j).length) :
  loopN N (fun a b c =>
       fq y a fun d =>
       fq x (n:Int) fun f =>
       bif !decide (d=f)then
        b (IntKind.i64.wrap (a+1))
       else
       c a) (j:Int) K=K ((j+fo x[n] (y.drop j):Nat):Int):=by
 have p:j<y.length:=by rw[length_drop]at i;omega
 refine tr (S:=Int) (fun s=>∃q:Nat,s=q/\j<=q/\q+fo x[n] (y.drop q)=j+fo x[n] (y.drop j)) (fun s=>y.length-s.toNat) (fun _=>K ((j+fo x[n] (y.drop j):Nat):Int)) ?_ N _ ⟨j,rfl,Nat.le_refl _,rfl⟩ (by first|omega|(simp only;omega));rintro s nx ⟨q,rfl,t,k⟩ g;rw[length_drop]at i;have h:q<y.length:=by omega
 rw[oF h,oF m];have l:=drop_eq_getElem_cons h;by_cases e:y[q]=x[n]
 .rw[decide_eq_true e,Bool.not_true,cond_false];rw[l,e,ra]at k;congr 1;omega
 .rw[decide_eq_false e,Bool.not_false,cond_true,fJ q (by omega)];refine g _ ⟨q+1,rfl,by omega,?_⟩ (by simp only[Int.toNat_natCast];omega);rw[l,Bq _ e]at k;omega
theorem pP:∀(x y:List eo) (i j:Nat),(gr x y i j).length<=x.length
 |[],y,i,j=>by simp[gr]
 |a::x,y,i,j=>by
  rw[nB];split
  .simp only[length_cons];have:=pP x (y.drop (fo a y+1)) (i+1) (j+fo a y+1);omega
  .have:=pP x y (i+1) j;simp only[length_cons];omega
theorem vH(x y:List eo)(i j p q:Nat)(l:List (Nat×Nat))(h:gr x y i j=(p,q)::l):∃d,∃h:d<x.length,p=i+d/\fo x[d] y<y.length/\q=j+fo x[d] y/\l=gr (x.drop (d+1)) (y.drop (fo x[d] y+1)) (p+1) (q+1):=qZ x y i j p q l h
theorem JU(x y:List eo)(hx:x.length<=100000)(U:y.length<=100000)(N:Nat)(G:1099511627776<=N)(a:List Int)(P:a=iw ((gr x y 0 0).map (·.1))) :
  forC a.length 0 (fun e s l B =>
     match s with
     |(h,b) =>
      jp (S:=Int×List ao) (fun s=>match s with
       |(r,m) =>
        l (r,m)) fun u =>
      jp (S:=Int) (fun g =>
       ey ((b++[(ao.mk (a.getD e 0) g)]).length<=274877906944) <|
       u (IntKind.i64.wrap (g+1),b++[(ao.mk (a.getD e 0) g)])) fun v =>
      loopN N (fun c n w =>
       fq y c fun z =>
       fq x (a.getD e 0) fun A =>
       bif !decide (z=A)then
        n (IntKind.i64.wrap (c+1))
       else
       w c) h (fun c =>
       v c)) (0,[]) (fun s=>match s with
     |(h,b)=>some b)=some (jw (gr x y 0 0)):=by
 have V:=pP x y 0 0;have C:a.length=(gr x y 0 0).length:=by rw[P];simp[iw]
 rw[C];have D:=VC (S:=Int×List ao) (Z:=List ao) (k:=fun s=>match s with
     |(h,b)=>some b) (f:=fun e s l B =>
     match s with
     |(h,b) =>
      jp (S:=Int×List ao) (fun s=>match s with
       |(r,m) =>
        l (r,m)) fun u =>
      jp (S:=Int) (fun g =>
       ey ((b++[(ao.mk (a.getD e 0) g)]).length<=274877906944) <|
       u (IntKind.i64.wrap (g+1),b++[(ao.mk (a.getD e 0) g)])) fun v =>
      loopN N (fun c n w =>
       fq y c fun z =>
       fq x (a.getD e 0) fun A =>
       bif !decide (z=A)then
        n (IntKind.i64.wrap (c+1))
       else
       w c) h (fun c =>
       v c)) (gr x y 0 0).length (fun t s=>∃i j:Nat,s.1=j/\(gr x y 0 0).drop t=gr (x.drop i) (y.drop j) i j/\s.2.length<=t/\t<=(gr x y 0 0).length) (fun t s=>some (s.2++jw ((gr x y 0 0).drop t))) ?_ ?_ (gr x y 0 0).length 0 (0,[]) (by omega) ⟨0,0,rfl,rfl,by simp,by omega⟩
 .simpa using D
 .rintro⟨W,o⟩ _;simp[jw]
 .rintro t ⟨W,o⟩ nx Q ⟨i,j,rfl,X,H,_⟩ I;dsimp only at H;have J:=drop_eq_getElem_cons Q;rcases E:(gr x y 0 0)[t]with⟨p,q⟩;rw[E]at J;obtain⟨d,Y,R,K,L,T⟩:=vH (x.drop i) (y.drop j) i j p q _ (X.symm.trans J);have M:i+d<x.length:=by rw[length_drop]at Y;omega
  have O:(x.drop i)[d]=x[i+d]:=by simp
  have F:a.getD t 0=((i+d:Nat):Int):=by rw[P];simp only[iw,map_map];rw[getD_eq_getElem?_getD,getElem?_map,getElem?_eq_getElem Q,E];simp[R]
  show jp _ _=_;rw[eJ,eJ];simp only[F];rw[O]at K L T;refine(uA x y (i+d) M U N G _ j K).trans ?_;have hyl:j+fo x[i+d] (y.drop j)<y.length:=by rw[length_drop]at K;omega
  try dsimp only
  rw[zj (by simp;omega),fJ _ (by omega)];refine(I (_,_) ⟨p+1,q+1,by rw[L],?_,by simp;omega,by omega⟩).trans ?_
  .rw[T,drop_drop,drop_drop];congr 2 <;> omega
  .rw[J];simp[jw,R,L]
theorem pw(x y:List eo)(hx:x.length<=100000)(I:y.length<=100000)(N:Nat)(J:1099511627776<=N)(K:List Int->Option (List ao)) :
   loopN N (fun s g u =>
    match s with
    |(d,b,c) =>
     bif decide (0<b)then
      call (EV c) fun l =>
      ey ((l++[d]).length<=274877906944) <|
      call (BA x y (l++[d]) (IntKind.i64.wrap (b-1)) (Gt (Ft x y 0 0) (x.length+1) (y.length+1))) fun v =>
      bif v then
       ey ((c++[d]).length<=274877906944) <|
       g (IntKind.i64.wrap (d+1),IntKind.i64.wrap (b-1),c++[d])
      else
      g (IntKind.i64.wrap (d+1),b,c)
     else
     u (d,b,c)) (0,(((Gt (Ft x y 0 0) (x.length+1) (y.length+1)).getD 0 []).getD 0 0),[]) (fun s=>match s with
    |(d,b,c)=>K c)=K (iw ((gr x y 0 0).map (·.1))):=by
 rw[i4 _ (by omega) (by omega),wS];refine tr (S:=Int×Int×List Int) (fun s=>∃(i k:Nat) (f:List (Nat×Nat)),s.1=i/\i<=x.length/\k<=y.length/\s.2.1=((lc (x.drop i) (y.drop k):Nat):Int)/\s.2.2=iw (f.map (·.1))/\gr x y 0 0=f++gr (x.drop i) (y.drop k) i k/\ru y ((f.map (·.1)).map fun p=>x.getD p []) 0=some k/\(∀p∈f,p.1<x.length)/\f.length<=i) (fun s=>x.length-s.1.toNat) (fun _=>K (iw ((gr x y 0 0).map (·.1)))) ?_ N (0,((lc (x.drop 0) (y.drop 0):Nat):Int),[]) ⟨0,0,[],rfl,by omega,by omega,rfl,rfl,rfl,rfl,by simp,by simp⟩ (by simp only;omega);rintro⟨R,left,o⟩ nx ⟨i,k,f,rfl,hi,H,rfl,rfl,B,w,n,L⟩ z;dsimp only;by_cases h:0<lc (x.drop i) (y.drop k)
 .rw[decide_eq_true (by omega),cond_true];have q:i<x.length:=by apply Nat.lt_of_not_le;intro m;rw[drop_eq_nil_of_le m,ls]at h;omega
  have M:(iw (f.map (·.1))).length=f.length:=by simp[iw]
  have D:iw (f.map (·.1))++[(i:Int)]=iw (f.map (·.1)++[i]):=by simp[iw]
  have E:=qM (x.drop i) (y.drop k);rw[length_drop]at E;rw[sH _ (by omega),zf,zj (by simp;omega),D,iD (by omega) (by omega),fJ i (by omega)];rw[yX x y hx I (f.map (·.1)) i (fun p r=>by
   obtain⟨a,O,rfl⟩:=mem_map.1 r;exact n a O) q (by simp;omega)]
  have F:x.getD i []=x[i]:=by simp[getD_eq_getElem?_getD,q]
  have t:ru y ((f.map (·.1)++[i]).map fun p=>x.getD p []) 0=if fo x[i] (y.drop k)<(y.drop k).length then some (k+fo x[i] (y.drop k)+1)else none:=by rw[map_append,map_cons,map_nil,uJ,w,F];rfl
  rw[t];have A:=drop_eq_getElem_cons q;have e:=nB x[i] (x.drop (i+1)) (y.drop k) i k;rw[<-A]at e;have j:=yK x[i] (x.drop (i+1)) (y.drop k);rw[<-A]at j;change ¬ (fo x[i] (y.drop k)<(y.drop k).length/\1+lc (x.drop (i+1)) ((y.drop k).drop (fo x[i] (y.drop k)+1))=lc (x.drop i) (y.drop k))->_ at j;rw[drop_drop]at e j;by_cases m:fo x[i] (y.drop k)<(y.drop k).length
  .have P:k+fo x[i] (y.drop k)<y.length:=by rw[length_drop]at m;omega
   rw[if_pos m,zf];have C:=yJ x[i] (x.drop (i+1)) (y.drop k) m;rw[<-A]at C;change 1+lc (x.drop (i+1)) ((y.drop k).drop (fo x[i] (y.drop k)+1))=lc (x.drop i) (y.drop k)↔lc (x.drop i) (y.drop k)<=1+lc (x.drop (i+1)) ((y.drop k).drop (fo x[i] (y.drop k)+1))at C;rw[drop_drop]at C;have Q:k+(fo x[i] (y.drop k)+1)=k+fo x[i] (y.drop k)+1:=by omega
   rw[Q]at e j C;by_cases G:1+lc (x.drop (i+1)) (y.drop (k+fo x[i] (y.drop k)+1))=lc (x.drop i) (y.drop k)
   .rw[decide_eq_true (by omega),cond_true,zj (by simp[iw];omega)];rw[if_pos ⟨m,G⟩]at e;refine z (_,_,_) ⟨i+1,k+fo x[i] (y.drop k)+1,f++[(i,k+fo x[i] (y.drop k))],rfl,by omega,by omega,by simp only;omega,by simp[iw],by rw[B,e];simp,?_,?_,by simp;omega⟩ (by simp only[Int.toNat_natCast];omega)
    .rw[map_append,map_cons,map_nil,t,if_pos m]
    .intro p r;rcases mem_append.1 r with r|r
     .exact n p r
     .simp at r;subst r;exact q
   .rw[decide_eq_false (by omega),cond_false];rw[if_neg (fun h=>G h.2)]at e;have:=j fun h=>G h.2;exact z (_,_,_) ⟨i+1,k,f,rfl,by omega,H,by simp only[this],rfl,by rw[B,e],w,n,by omega⟩ (by simp only[Int.toNat_natCast];omega)
  .rw[if_neg m,zf,cond_false];rw[if_neg (fun h=>m h.1)]at e;have:=j fun h=>m h.1;exact z (_,_,_) ⟨i+1,k,f,rfl,by omega,H,by simp only[this],rfl,by rw[B,e],w,n,by omega⟩ (by simp only[Int.toNat_natCast];omega)
 .rw[decide_eq_false (by omega),cond_false];rw[qX (x.drop i) (y.drop k) i k (by omega),append_nil]at B;rw[B]
theorem p7(x y:List eo)(hx:x.length<=100000)(hy:y.length<=100000):(
 ey (0<=IntKind.i64.wrap ((x.length:Int)+1)/\IntKind.i64.wrap ((x.length:Int)+1)<=IntKind.i64.wrap ((x.length:Int)+1)/\IntKind.i64.wrap ((x.length:Int)+1)<=274877906944) <|
 fc (List.replicate ((IntKind.i64.wrap ((x.length:Int)+1)).toNat) []) fun v_4 =>
 jp (S:=List (List Int)) (fun O =>
  jp (S:=List (List Int)) (fun k =>
   jp (S:=List Int) (fun l =>
    jp (S:=List ao) (fun z =>
     some z) fun P =>
    forC l.length 0 (fun o s A k_896 =>
     match s with
     |(r,m) =>
      jp (S:=Int×List ao) (fun s=>match s with
       |(Q,B) =>
        A (Q,B)) fun R =>
      jp (S:=Int) (fun p =>
       ey ((m++[(ao.mk (l.getD o 0) p)]).length<=274877906944) <|
       R (IntKind.i64.wrap (p+1),m++[(ao.mk (l.getD o 0) p)])) fun T =>
      loopN fv (fun n C U =>
       fq y n fun V =>
       fq x (l.getD o 0) fun W =>
       bif !decide (V=W)then
        C (IntKind.i64.wrap (n+1))
       else
       U n) r (fun n =>
       T n)) (0,[]) (fun s=>match s with
     |(r,m) =>
      P m)) fun X =>
   ey (0<=0/\0<(k.length:Int)) <|
   ey (0<=0/\0<((k.getD 0 []).length:Int)) <|
   loopN fv (fun s q Y =>
    match s with
    |(h,f,g) =>
     bif decide (0<f)then
      call (EV g) fun t =>
      ey ((t++[h]).length<=274877906944) <|
      call (BA x y (t++[h]) (IntKind.i64.wrap (f-1)) k) fun Z =>
      bif Z then
       ey ((g++[h]).length<=274877906944) <|
       q (IntKind.i64.wrap (h+1),IntKind.i64.wrap (f-1),g++[h])
      else
      q (IntKind.i64.wrap (h+1),f,g)
     else
     Y (h,f,g)) (0,((k.getD 0 []).getD 0 0),[]) (fun s=>match s with
    |(h,f,g) =>
     X g)) fun k_649 =>
  loopN fv (fun s nx376 D =>
   match s with
   |(a,j) =>
    bif decide (0<=a)then
     jp (S:=List (List Int)) (fun u =>
      nx376 (IntKind.i64.wrap (a-1),u)) fun E =>
     loopN fv (fun s v F =>
      match s with
      |(b,c) =>
       bif decide (0<=b)then
        ey (0<=a/\a<(c.length:Int)) <|
        ey (0<=IntKind.i64.wrap (a+1)/\IntKind.i64.wrap (a+1)<(c.length:Int)) <|
        ey (0<=b/\b<((c.getD ((IntKind.i64.wrap (a+1)).toNat) []).length:Int)) <|
        ey (0<=a/\a<(c.length:Int)) <|
        ey (0<=IntKind.i64.wrap (b+1)/\IntKind.i64.wrap (b+1)<((c.getD a.toNat []).length:Int)) <|
        ey (0<=b/\b<((c.getD a.toNat []).length:Int)) <|
        fc (List.set c a.toNat (List.set (c.getD a.toNat []) b.toNat (max ((c.getD ((IntKind.i64.wrap (a+1)).toNat) []).getD b.toNat 0) ((c.getD a.toNat []).getD ((IntKind.i64.wrap (b+1)).toNat) 0)))) fun d =>
        fq x a fun G =>
        fq y b fun H =>
        bif decide (G=H)then
         ey (0<=a/\a<(d.length:Int)) <|
         ey (0<=a/\a<(d.length:Int)) <|
         ey (0<=b/\b<((d.getD a.toNat []).length:Int)) <|
         ey (0<=IntKind.i64.wrap (a+1)/\IntKind.i64.wrap (a+1)<(d.length:Int)) <|
         ey (0<=IntKind.i64.wrap (b+1)/\IntKind.i64.wrap (b+1)<((d.getD ((IntKind.i64.wrap (a+1)).toNat) []).length:Int)) <|
         ey (0<=b/\b<((d.getD a.toNat []).length:Int)) <|
         fc (List.set d a.toNat (List.set (d.getD a.toNat []) b.toNat (max ((d.getD a.toNat []).getD b.toNat 0) (IntKind.i64.wrap (1+((d.getD ((IntKind.i64.wrap (a+1)).toNat) []).getD ((IntKind.i64.wrap (b+1)).toNat) 0)))))) fun I =>
         v (IntKind.i64.wrap (b-1),I)
        else
        v (IntKind.i64.wrap (b-1),d)
       else
       F (b,c)) (IntKind.i64.wrap ((y.length:Int)-1),j) (fun s=>match s with
      |(b,c) =>
       E c)
    else
    D (a,j)) (IntKind.i64.wrap ((x.length:Int)-1),O) (fun s=>match s with
   |(a,j) =>
    k_649 j)) fun k_30 =>
 loopN fv (fun s nx597 J =>
  match s with
  |(e,i) =>
   bif decide (e<(v_4.length:Int))then
    ey (0<=IntKind.i64.wrap ((y.length:Int)+1)/\IntKind.i64.wrap ((y.length:Int)+1)<=IntKind.i64.wrap ((y.length:Int)+1)/\IntKind.i64.wrap ((y.length:Int)+1)<=274877906944) <|
    ey (0<=e/\e<(i.length:Int)) <|
    fc (List.set i e.toNat (List.replicate ((IntKind.i64.wrap ((y.length:Int)+1)).toNat) 0)) fun L =>
    nx597 (IntKind.i64.wrap (e+1),L)
   else
   J (e,i)) (0,v_4) (fun s=>match s with
  |(e,i) =>
   k_30 i))=some (jw (gr x y 0 0)):=by
 obtain⟨N,hN⟩:∃N,fv=N:=⟨_,rfl⟩;have M:1099511627776<=N:=hN ▸ xa;rw[hN];clear hN;rw[zj (by rw[fJ x.length (by omega)];omega)];rw[yG,eJ];generalize hK:(fun(w:List (List Int))=>(jp _ _:Option (List ao)))=K;rw[uh x y hx hy N M K];subst hK;show jp _ _=_;rw[eJ];generalize hK:(fun(w:List (List Int))=>(jp _ _:Option (List ao)))=K;rw[xX x y hx hy N M K];subst hK;show jp _ _=_;rw[eJ,zj (by rw[KC];omega),zj (by rw[BO _ (by omega)];omega)];generalize hK:(fun(w:List Int)=>(jp _ _:Option (List ao)))=K;rw[pw x y hx hy N M K];subst hK;show jp _ _=_;rw[eJ];exact JU x y hx hy N M _ rfl
theorem oy(x y:List eo)(hx:x.length<=100000)(a:y.length<=100000):L8 x y=some (jw (gr x y 0 0)):=p7 x y hx a
section
variable {α:Type} [DecidableEq α]
abbrev Pr:=Nat×Nat
structure Rise(x y:List α)(P:List Pr):Prop where
 mem:∀p∈P,∃(h:p.1<x.length) (h':p.2<y.length),x[p.1]=y[p.2]
 up:P.Pairwise fun a b=>a.1<b.1/\a.2<b.2
theorem Up.rise{x y:List α}:∀{l:List Pr} {i j:Nat},Up x y i j l->Rise x y l/\∀p∈l,i<=p.1/\j<=p.2
 |[],_,_,_=>⟨⟨by simp,.nil⟩,by simp⟩
 |(p,q)::l,i,j,h=>by
  cases h with
  |cons e f g k m n =>
   obtain⟨⟨a,b⟩,c⟩:=n.rise;refine⟨⟨fun r d=>?_,.cons (fun r d=>?_) b⟩,fun r d=>?_⟩
   .rcases mem_cons.1 d with rfl|d
    .exact⟨g,k,m⟩
    .exact a r d
   .have:=c r d;simp only;omega
   .rcases mem_cons.1 d with rfl|d
    .exact⟨e,f⟩
    .have:=c r d;omega
theorem qY(x y:List α):Rise x y (gr x y 0 0):=(vG x y x y 0 0 rfl rfl).rise.1
def qK(P:List Pr)(t:Nat):Option Nat:=(P.find? fun p=>decide (p.1=t)).map (·.2)
theorem ML(p:Pr)(P:List Pr)(t:Nat):qK (p::P) t=if p.1=t then some p.2 else qK P t:=by
 unfold qK;by_cases h:p.1=t
 .rw[find?_cons_of_pos (by simpa using h),if_pos h];rfl
 .rw[find?_cons_of_neg (by simpa using h),if_neg h]
theorem lq:∀{P:List Pr} {t k:Nat},qK P t=some k->(t,k)∈P
 |[],t,k,h=>by simp[qK]at h
 |p::P,t,k,h=>by
  rw[ML]at h;split at h
  .rename_i e;cases h;subst e;simp
  .exact mem_cons_of_mem _ (lq h)
theorem Rise.lt{x y:List α}{P:List Pr}(h:Rise x y P){p q:Pr}(d:p∈P)(f:q∈P)(i:p.1<q.1):p.2<q.2:=by
 have:=h.up;clear h;induction P with
 |nil=>cases d
 |cons r P j =>
  cases this with
  |cons g k =>
   rcases mem_cons.1 d with e|b
   .rcases mem_cons.1 f with c|a
    .subst e;subst c;omega
    .subst e;exact(g q a).2
   .rcases mem_cons.1 f with c|a
    .subst c;have:=g p b;omega
    .exact j b a k
def pj{S:Type}(a:List Pr)(step:Nat->Nat->Nat->S->S):List Pr->S->S
 |[],s=>s
 |p::l,s=>match qK a p.1 with
  |none=>pj a step l s
  |some k=>pj a step l (step p.1 p.2 k s)
theorem VN{S:Type}{P2:List Pr}{step:Nat->Nat->Nat->S->S}(I:Nat->S->Prop):∀(l:List Pr) (t:Nat) (s:S),I t s->l.Pairwise (fun a b=>a.1<b.1/\a.2<b.2)->(∀p∈l,t<=p.1) ->
  (∀p∈l,∀k t s,qK P2 p.1=some k->t<=p.1->I t s->I (p.1+1) (step p.1 p.2 k s))->∃g,I g (pj P2 step l s)
 |[],t,s,h,_,_,_=>⟨t,h⟩
 |p::l,t,s,h,i,e,d=>by
  unfold pj;cases i with
  |cons j f =>
   cases m:qK P2 p.1 with
   |none=>exact VN I l t s h f (fun q c=>e q (by simp[c])) fun q c=>d q (by simp[c])
   |some k=>exact VN I l (p.1+1) _ (d p (by simp) k t s m (e p (by simp)) h) f (fun q c=>by have:=(j q c).1;omega) fun q c=>d q (by simp[c])
end
def yR(s:eo):Bool:=(decide (((([10]:eo).length:Nat):Int)<=(s.length:Int)))&&(decide ((List.drop ((IntKind.i64.wrap ((s.length:Int)-((([10]:eo).length:Nat):Int))).toNat) s)=([10]:eo)))
theorem SY(s:eo)(c:s.length<=1000000):LW s ([10]:eo)=some (yR s):=by
 unfold LW Vm;rw[zj,zf]
 .rfl
 .intro h;have a:=of_decide_eq_true h;have b:((([10]:eo).length:Nat):Int)=1:=rfl;rw[b]at a|-;rw[iD (by omega) (by omega)];omega
def J8(s:eo):eo:=bif ((!decide (s=[]))&&(!(bif (!decide (s=[]))then yR s else false)))then s++([10]:eo)else s
theorem TX(s:eo):(J8 s).length<=s.length+1:=by
 unfold J8;cases ((!decide (s=[]))&&(!(bif (!decide (s=[]))then yR s else false)))
 .simp only[cond_false];omega
 .simp
theorem pZ(s:eo)(b:s.length<=1000000):(callG (!decide (s=[])) (LW s ([10]:eo)) false fun a =>
 bif ((!decide (s=[]))&&(!a))then
  ey ((s++([10]:eo)).length<=274877906944) <|
  some (s++([10]:eo))
 else
 some s)=some (J8 s):=by
 rw[SY s b,zH];unfold J8;cases ((!decide (s=[]))&&(!(bif (!decide (s=[]))then yR s else false)))
 .rfl
 .simp only[cond_true];rw[zj (by simp;omega)]
theorem Yv(s:eo)(a:s.length<=1000000):Pk s=some (J8 s):=pZ s a
def Yk(a d:eo):eo:=((((([60,60,60,60,60,60,60,10]:eo)++J8 a)++([61,61,61,61,61,61,61,10]:eo))++J8 d)++([62,62,62,62,62,62,62,10]:eo))
theorem Kf(a d:eo):(Yk a d).length<=a.length+d.length+26:=by have:=TX a;have:=TX d;simp only[Yk,length_append,length_cons,length_nil];omega
def blk(b a d:eo):eo×Bool:=bif decide (a=b)then(d,false)else bif (decide (d=b)||decide (a=d))then(a,false)else(Yk a d,true)
theorem lV(b a d:eo):(blk b a d).1.length<=a.length+d.length+26:=by
 have:=Kf a d;unfold blk;cases decide (a=b)
 .cases (decide (d=b)||decide (a=d))
  .simpa using this
  .simp only[cond_false,cond_true];omega
 .simp only[cond_true];omega
def sl(l:List eo)(i j:Nat):eo:=((l.drop i).take (j-i)).flatten
theorem nH:∀l:List eo,l.flatten.length=(l.map List.length).sum
 |[]=>rfl
 |a::l=>by simp[nH l]
theorem BG(l:List eo)(i j:Nat):(sl l i j).length<=l.flatten.length:=by
 unfold sl;have h:(l.drop i).flatten.length<=l.flatten.length:=by
  conv=>rhs;rw[<-take_append_drop i l,flatten_append,length_append]
  omega
 have a:((l.drop i).take (j-i)).flatten.length<=(l.drop i).flatten.length:=by
  conv=>rhs;rw[<-take_append_drop (j-i) (l.drop i),flatten_append,length_append]
  omega
 omega
theorem SX(l:List eo)(c:l.length<=1000000)(b:l.flatten.length<=1000000):xO l []=some l.flatten:=by
 cases l with
 |nil=>rfl
 |cons a l =>
  rw[nH]at b;simp only[map_cons,sum_cons,length_cons]at c b;rw[yN [] a l (by simp) (by omega) (by omega)];simp
theorem lw(l:List eo)(i j:Nat)(a:l.length<=1000000)(b:l.flatten.length<=1000000):xO (List.take ((j:Int).toNat-(i:Int).toNat) (List.drop (i:Int).toNat l)) []=some (sl l i j):=by have:=BG l i j;simp only[Int.toNat_natCast];exact SX _ (by simp only[length_take,length_drop];omega) (by unfold sl at this;omega)
theorem YT(x y z:List eo)(i j k d a b c:Nat)(o:eo)(hx:x.length<=100000/\x.flatten.length<=100000)(l:y.length<=100000/\y.flatten.length<=100000)(hz:z.length<=100000/\z.flatten.length<=100000)
  (m:d<=i/\i<=x.length) (n:a<=j/\j<=y.length) (p:b<=k/\k<=z.length) (q:o.length<=100000000000) (r:c<=1000000) :
  xQ i j k x d y a z b o c=some (o++(blk (sl x d i) (sl y a j) (sl z b k)).1,((c+if (blk (sl x d i) (sl y a j) (sl z b k)).2 then 1 else 0:Nat):Int)):=by
 have s:=BG y a j;have t:=BG z b k;have f:=lV (sl x d i) (sl y a j) (sl z b k);have u:=TX (sl y a j);have v:=TX (sl z b k);unfold xQ;rw[zj (by omega),lw x d i (by omega) (by omega),zf,zj (by omega),lw y a j (by omega) (by omega),zf,zj (by omega),lw z b k (by omega) (by omega),zf];have e:decide (sl z b k=sl y a j)=decide (sl y a j=sl z b k):=decide_eq_decide.2 ⟨Eq.symm,Eq.symm⟩;rw[e];unfold blk at f|-;cases g:decide (sl y a j=sl x d i)
 .simp only[g,cond_false]at f|-;cases h:(decide (sl z b k=sl x d i)||decide (sl y a j=sl z b k))
  .simp only[h,cond_false]at f|-;rw[Yv _ (by omega),zf,zj (by simp;omega),zj (by simp;omega),Yv _ (by omega),zf,zj (by simp;omega),zj (by simp;omega),zj (by simp;omega),fJ c (by omega)];rfl
  .simp only[h,cond_true]at f|-;rw[zj (by simp;omega)];rfl
 .simp only[g,cond_true]at f|-;rw[zj (by simp;omega)];rfl
theorem sr(P:List Pr)(t:Nat)(u:Int):∃r:Int,LZ (jw P) (ao.mk (t:Int) u)=some r/\(qK P t=none->r=-1)/\∀k,qK P t=some k->∃i:Nat,r=i/\P[i]?=some (t,k):=by
 have m:∀(l:List Pr) (q:Nat),∃r:Int,(forL (jw l) q (fun f g s d y =>
  call (Ph g (ao.mk (t:Int) u)) fun j =>
  bif j then
   some (f:Int)
  else
  d ()) () (fun _=>some (-1)))=some r/\(qK l t=none->r=-1)/\∀k,qK l t=some k->∃i:Nat,r=((q+i:Nat):Int)/\l[i]?=some (t,k):=by
  intro l;induction l with
  |nil=>intro q;exact⟨-1,rfl,fun _=>rfl,fun k h=>by simp[qK]at h⟩
  |cons p l z =>
   intro q;have c:Ph (ao.mk p.1 p.2) (ao.mk (t:Int) u)=some (decide ((p.1:Int)=(t:Int))):=rfl;by_cases e:p.1=t
   .refine⟨q,?_,fun h=>?_,fun k h=>⟨0,by simp,?_⟩⟩
    .rw[show jw (p::l)=ao.mk p.1 p.2::jw l from rfl];unfold forL;dsimp only;rw[c,zf,decide_eq_true (by omega)];rfl
    .rw[ML,if_pos e]at h;cases h
    .rw[ML,if_pos e]at h;cases h;obtain⟨a,b⟩:=p;subst e;rfl
   .obtain⟨r,n,o,v⟩:=z (q+1);refine⟨r,?_,fun h=>?_,fun k h=>?_⟩
    .rw[show jw (p::l)=ao.mk p.1 p.2::jw l from rfl];unfold forL;dsimp only;rw[c,zf,decide_eq_false (by omega)];exact n
    .rw[ML,if_neg e]at h;exact o h
    .rw[ML,if_neg e]at h;obtain⟨i,w,x⟩:=v k h;exact⟨i+1,by rw[w];congr 1;omega,by simpa using x⟩
 obtain⟨r,n,o,v⟩:=m P 0;refine⟨r,?_,o,fun k h=>?_⟩
 .unfold LZ;rw[eJ];exact n
 .obtain⟨i,w,x⟩:=v k h;exact⟨i,by rw[w];simp,x⟩
structure MS where
 o:eo
 c:Nat
 fi:Nat
 fj:Nat
 fk:Nat
def tup(s:MS):eo×Int×Int×Int×Int:=(s.o,s.c,s.fi,s.fj,s.fk)
def BL(x y z:List eo)(i j k:Nat)(s:MS):MS:=⟨s.o++(blk (sl x s.fi i) (sl y s.fj j) (sl z s.fk k)).1++x.getD i [],s.c+(if (blk (sl x s.fi i) (sl y s.fj j) (sl z s.fk k)).2 then 1 else 0),i+1,j+1,k+1⟩
structure BdL(l:List eo):Prop where
 n:l.length<=1000
 s:l.flatten.length<=100000
theorem BdL.w{l:List eo}(h:BdL l):l.length<=100000/\l.flatten.length<=100000:=⟨by have:=h.n;omega,h.s⟩
theorem nD(l:List eo)(i:Nat):(l.getD i []).length<=l.flatten.length:=by
 induction l generalizing i with
 |nil=>simp
 |cons a l b =>
  cases i with
  |zero=>simp
  |succ i=>have:=b i;simp only[getD_cons_succ,flatten_cons,length_append];omega
structure Iv(x y z:List eo)(P1 P2:List Pr)(t:Nat)(s:MS):Prop where
 fi:s.fi<=t
 tx:t<=x.length
 fj:s.fj<=y.length
 fk:s.fk<=z.length
 p1:∀p∈P1,t<=p.1->s.fj<=p.2
 p2:∀p∈P2,t<=p.1->s.fk<=p.2
 ob:s.o.length<=1000000*t
 cb:s.c<=t
section
variable {x y z:List eo} {P1 P2:List Pr}
theorem Iv.mono{t a:Nat}{s:MS}(h:Iv x y z P1 P2 t s)(e:t<=a)(c:a<=x.length):Iv x y z P1 P2 a s :=
 ⟨by have:=h.fi;omega,c,h.fj,h.fk,fun p b d=>h.p1 p b (by omega),fun p b d=>h.p2 p b (by omega),by have:=h.ob;omega,by have:=h.cb;omega⟩
theorem Iv.zero:Iv x y z P1 P2 0 ⟨[],0,0,0,0⟩:=⟨Nat.le_refl _,by omega,by simp,by simp,by simp,by simp,by simp,by simp⟩
theorem Iv.step(hx:BdL x)(m:BdL y)(hz:BdL z)(b:Rise x y P1)(c:Rise x z P2){t i j k:Nat}{s:MS}(h:Iv x y z P1 P2 t s)(d:(i,j)∈P1)(e:(i,k)∈P2)(q:t<=i):Iv x y z P1 P2 (i+1) (BL x y z i j k s):=by
 obtain⟨f,g,_⟩:=b.mem _ d;obtain⟨n,l,_⟩:=c.mem _ e;simp only at f g n l;refine⟨Nat.le_refl _,f,g,l,fun p a o=>b.lt d a (by simp only;omega),fun p a o=>c.lt e a (by simp only;omega),?_,?_⟩
 .have:=lV (sl x s.fi i) (sl y s.fj j) (sl z s.fk k);have:=BG y s.fj j;have:=BG z s.fk k;have:=nD x i;have:=hx.s;have:=m.s;have:=hz.s;have:=h.ob;simp only[BL,length_append];omega
 .have:=h.cb;simp only[BL];split <;> omega
theorem Hx(hx:BdL x)(O:BdL y)(hz:BdL z)(P:Rise x y P1)(X:Rise x z P2){Z:Type}(K:eo×Int×Int×Int×Int->Option Z):∀(l v:List Pr) (q t:Nat) (u:MS),P1=v++l->Iv x y z P1 P2 t u->(∀p∈l,t<=p.1) ->
 forL (jw l) q (fun Y m s A k_72 =>
  match s with
  |(d,f,g,h,j) =>
   call (LZ (jw P2) m) fun D =>
   bif decide (D<0)then
    A (d,f,g,h,j)
   else
   fq (jw P2) D fun E =>
   call (xQ m.N m.M E.M x g y h z j d f) fun B =>
   fq x m.N fun F =>
   ey ((B.1++F).length<=274877906944) <|
   A (B.1++F,B.2,IntKind.i64.wrap (m.N+1),IntKind.i64.wrap (m.M+1),IntKind.i64.wrap (E.M+1))) (tup u) (fun s=>match s with
  |(d,f,g,h,j) =>
   K (d,f,g,h,j))=K (tup (pj P2 (BL x y z) l u)):=by
 intro l;induction l with
 |nil=>intro v q t u _ _ _;rfl
 |cons p l ih =>
  intro v q t u e hi hl;have hxn:=hx.n;have G:=P.up;rw[e,pairwise_append]at G;have Q:∀r∈l,p.1+1<=r.1:=by
   intro r H;have:=G.2.1;cases this with
   |cons a b=>exact(a r H).1
  have m1:p∈P1:=by rw[e];simp
  obtain⟨l0,l1,_⟩:=P.mem p m1;have e':P1=(v++[p])++l:=by rw[e];simp
  rw[show jw (p::l)=ao.mk p.1 p.2::jw l from rfl];unfold forL;simp only[tup];obtain⟨r,H,h1,h2⟩:=sr P2 p.1 (p.2:Int);rw[H,zf];unfold pj;cases R:qK P2 p.1 with
  |none =>
   rw[h1 R,show decide ((-1:Int)<0)=true from rfl,cond_true];exact ih (v++[p]) (q+1) t u e' hi fun r H=>hl r (by simp[H])
  |some k =>
   obtain⟨i,rfl,S⟩:=h2 k R;have m2:=lq R;obtain⟨_,l2,_⟩:=X.mem _ m2;simp only at l2;obtain⟨T,U⟩:=List.getElem?_eq_some_iff.1 S;have I:i<(jw P2).length:=by simp[jw];exact T
   have V:(jw P2)[i]=ao.mk (p.1:Nat) (k:Nat):=by simp[jw,U]
   have J:=hl p (by simp);have C:=hi.mono J (by omega);have hyn:=O.n;have hzn:=hz.n;have hob:=C.ob;have hcb:=C.cb;have hb:=lV (sl x u.fi p.1) (sl y u.fj p.2) (sl z u.fk k);have:=BG y u.fj p.2;have:=BG z u.fk k;have W:=nD x p.1;have hxs:=hx.s;have hys:=O.s;have hzs:=hz.s;have L:x.getD p.1 []=x[p.1]:=by simp[getD_eq_getElem?_getD,l0]
   rw[L]at W;rw[decide_eq_false (by omega),cond_false,oF I,V,
    YT x y z p.1 p.2 k u.fi u.fj u.fk u.c u.o hx.w O.w hz.w ⟨C.fi,by omega⟩ ⟨C.p1 _ m1 (Nat.le_refl _),by omega⟩ ⟨C.p2 _ m2 (Nat.le_refl _),by omega⟩ (by omega) (by omega),zf,oF l0,zj (by simp only[length_append];omega),fJ p.1 (by omega),fJ p.2 (by omega),fJ k (by omega)]
   have:=ih (v++[p]) (q+1) (p.1+1) (BL x y z p.1 p.2 k u) e' (hi.step hx O hz P X m1 m2 J) Q;rw[<-L];exact this
def oK(x y z:List eo)(a P2:List Pr):MS:=pj P2 (BL x y z) a ⟨[],0,0,0,0⟩
def mgB(x y z:List eo)(a b:List Pr):eo×Bool:=blk (sl x (oK x y z a b).fi x.length) (sl y (oK x y z a b).fj y.length) (sl z (oK x y z a b).fk z.length)
def Vr(x y z:List eo)(a b:List Pr):eo:=(oK x y z a b).o++(mgB x y z a b).1
def mgC(x y z:List eo)(a b:List Pr):Nat:=(oK x y z a b).c+if (mgB x y z a b).2 then 1 else 0
theorem Ro(hx:BdL x)(b:BdL y)(hz:BdL z)(a:Rise x y P1)(c:Rise x z P2):∃t,Iv x y z P1 P2 t (oK x y z P1 P2) :=
 VN (P2:=P2) (step:=BL x y z) (Iv x y z P1 P2) P1 0 ⟨[],0,0,0,0⟩ .zero a.up (fun _ _=>Nat.zero_le _) fun p d k t s e f h=>h.step hx b hz a c d (lq e) f
def mgR(x y z:List eo)(a b:List Pr):eo×Int×Int:=bif decide (65536<((Vr x y z a b).length:Int))then([],0,4)else(Vr x y z a b,mgC x y z a b,0)
theorem yC(hx:BdL x)(d:BdL y)(hz:BdL z)(e:Rise x y P1)(f:Rise x z P2):xQ (x.length:Int) (y.length:Int) (z.length:Int) x (oK x y z P1 P2).fi y (oK x y z P1 P2).fj z (oK x y z P1 P2).fk (oK x y z P1 P2).o (oK x y z P1 P2).c=some (Vr x y z P1 P2,(mgC x y z P1 P2:Int)):=by obtain⟨t,h⟩:=Ro hx d hz e f;have:=hx.n;have:=h.fi;have:=h.tx;have:=h.ob;have:=h.cb;exact YT x y z _ _ _ _ _ _ _ _ hx.w d.w hz.w ⟨by omega,by omega⟩ ⟨h.fj,by omega⟩ ⟨h.fk,by omega⟩ (by omega) (by omega)
end
structure Sh(s:eo):Prop where
 b:s.length<=65536
 n:(fl s).length<=1000
theorem Sh.of{s:eo}(h:s.length<=600):Sh s:=⟨by omega,by have:=pK s;omega⟩
theorem Wh{s:eo}(h:Sh s):BdL (fl s):=⟨h.n,by rw[nc];have:=h.b;omega⟩
theorem Zi(a b:eo)(d:Sh a)(e:Sh b):A2 a b=some 0:=by
 have g:=d.n;have h:=e.n;have i:=d.b;have j:=e.b;have step:∀(s:eo) (k:Option Int),Sh s->(callG (!(decide (65536<(s.length:Int)))) (xF s) [] fun c =>
  bif ((decide (65536<(s.length:Int)))||(decide (1000<(c.length:Int))))then some 4 else k)=k:=by
  intro s k f;have:=f.n;have:=f.b;rw[Nk s (by omega),zH,decide_eq_false (by omega),Bool.not_false,cond_true,decide_eq_false (by omega)];rfl
 unfold A2;rw[eJ];unfold forL;dsimp only;rw[step a _ d];unfold forL;dsimp only;rw[step b _ e];rfl
def mgT(c a b:eo):eo×Int×Int:=mgR (fl c) (fl a) (fl b) (gr (fl c) (fl a) 0 0) (gr (fl c) (fl b) 0 0)
theorem zps(d a b:eo)(e:Sh d)(f:Sh a)(g:Sh b):EI d a b=some (mgT d a b):=by
 have h:=Wh e;have i:=Wh f;have j:=Wh g;have u:=h.n;have m:=i.n;have p:=j.n;have v:=e.b;have w:=f.b;have x:=g.b;have k:=qY (fl d) (fl a);have l:=qY (fl d) (fl b);unfold EI;rw[Zi d a e f,zf,Zi d b e g,zf,show g8 [0,0]=some 0 from rfl,zf];rw[show decide ((0:Int)=0)=true from rfl,Bool.not_true,cond_false];rw[Nk d (by omega),zf,Nk a (by omega),zf,Nk b (by omega),zf];rw[oy _ _ (by omega) (by omega),zf,oy _ _ (by omega) (by omega),zf,eJ];generalize q:(fun(s:eo×Int×Int×Int×Int)=>(_:Option (eo×Int×Int)))=K;have r:=Hx h i j k l K _ [] 0 0 ⟨[],0,0,0,0⟩ rfl .zero (fun _ _=>Nat.zero_le _);refine Eq.trans r ?_;subst q;have t:=yC h i j k l;show call (xQ ((fl d).length:Int) ((fl a).length:Int) ((fl b).length:Int) (fl d) (oK (fl d) (fl a) (fl b) _ _).fi (fl a) (oK (fl d) (fl a) (fl b) _ _).fj (fl b) (oK (fl d) (fl a) (fl b) _ _).fk (oK (fl d) (fl a) (fl b) _ _).o (oK (fl d) (fl a) (fl b) _ _).c) _=_;rw[t,zf];unfold mgT mgR;dsimp only;cases decide (65536<((Vr (fl d) (fl a) (fl b) (gr (fl d) (fl a) 0 0) (gr (fl d) (fl b) 0 0)).length:Int)) <;> rfl
def mj(s:eo):Bool:=decide (65536<(s.length:Int))||decide (1000<((fl s).length:Int))
theorem uC{s:eo}(h:mj s=false):Sh s:=by unfold mj at h;rw[Bool.or_eq_false_iff,decide_eq_false_iff_not,decide_eq_false_iff_not]at h;exact⟨by omega,by omega⟩
theorem ZE(a b:eo)(d:a.length<=17179869184)(e:b.length<=17179869184):A2 a b=some (bif (mj a||mj b)then 4 else 0):=by
 have step:∀(s:eo) (k:Option Int),s.length<=17179869184->(callG (!(decide (65536<(s.length:Int)))) (xF s) [] fun c =>
  bif ((decide (65536<(s.length:Int)))||(decide (1000<(c.length:Int))))then some 4 else k)=bif mj s then some 4 else k:=by
  intro s k f;rw[Nk s f,zH];unfold mj;cases decide (65536<(s.length:Int)) <;> rfl
 unfold A2;rw[eJ];unfold forL;dsimp only;rw[step a _ d];unfold forL;dsimp only;rw[step b _ e];cases mj a <;> cases mj b <;> rfl
abbrev W1:=List (eo×ae)
abbrev W2:=List (eo×eo)
abbrev W3:=List (eo×ah)
theorem KQ(x:ak)(h:TL x):td x=some (Hh x):=by
 unfold td Hh;simp only[eJ,tm,zf];have a:=qe 114 h.d;have b:=qe 45 h.d;have c:=qe 45 h.s;have e:=qe 97 h.v;have f:=qe 45 h.v;unfold eG;cases decide (x.g=5)with
 |true =>
  show(ey _ <| _)=_;rw[zj c,B5];rfl
 |false =>
  cases decide (x.g=6)with
  |true =>
   show(bif x.h.H then _ else _)=_;unfold Rc;cases x.h.H with
   |true=>show(ey _ <| _)=_;rw[zj e,B5];rfl
   |false=>show(ey _ <| _)=_;rw[zj f,B5];rfl
  |false =>
   show(bif x.j.G then _ else _)=_;unfold Re;cases x.j.G with
   |true=>show(ey _ <| _)=_;rw[zj a,B5];rfl
   |false=>show(ey _ <| _)=_;rw[zj b,B5];rfl
theorem VL(x:ak):BB x=some (tz x):=by
 unfold BB tz;rw[tm,zf];unfold eG;cases decide (x.g=5) <;> cases decide (x.g=6) <;> rfl
theorem BZ(o:eo)(x:ak)(h:TL x):tP o x=some (nz o x):=by
 unfold tP nz;rw[VL,zf,KQ x h,zf];cases decide (x.g=3) <;> rfl
def jM(a b:aa):Bool:=decide (eG a.g=eG b.g)&&decide (a.a=b.a)
theorem B0(a b:aa):tW a b=some (jM a b):=by
 unfold tW;rw[tm,zf,tm,zf];rfl
def vC(L:Lw)(h:aa):ak :=
 bif decide (eG h.g=0)then⟨h.g,(L.f h.a).getD jc,oO,i9⟩else bif decide (eG h.g=1)then⟨h.g,jc,⟨h.a,((L.s h.a).map (·.Value)).getD []⟩,i9⟩else⟨h.g,jc,oO,(L.v h.a).getD i9⟩
section
variable {m1:W1} {m2:W2} {m3:W3} {M:aj}
theorem Uh(h:Wr m1 m2 m3 M)(x:aa)(F:List ab):A9 x F m1 m2 m3=some (vC (oL M) x,(tA (oL M) (mZ x)).isSome):=by
 unfold A9 vC;rw[tm,zf];simp only[fc];have t:=iG x.g;unfold tA mZ;simp only;by_cases b:eG x.g=0
 .rw[decide_eq_true b,decide_eq_false (by omega:¬ eG x.g+1=2),decide_eq_false (by omega:¬ eG x.g+1=3)];simp only[cond_true,cond_false,h.look1,Option.isSome_map];rfl
 .rw[decide_eq_false b];by_cases c:eG x.g=1
  .rw[decide_eq_true c,decide_eq_true (by omega:eG x.g+1=2)];simp only[cond_true,cond_false,h.is2,Option.isSome_map];have e:=h.look2 x.a;have:zS m2 x.a=(vm M.B x.a).map (·.Value):=by rw[<-e];cases zS m2 x.a <;> rfl
   rw[this];rfl
  .rw[decide_eq_false c,decide_eq_false (by omega:¬ eG x.g+1=2),decide_eq_true (by omega:eG x.g+1=3)];simp only[cond_true,cond_false,h.look3,Option.isSome_map];rfl
theorem lx{L:Lw}(hz:Sz L)(x:aa):TL (vC L x):=by
 have z:Sm ([]:eo):=Nat.zero_le _;unfold vC;cases decide (eG x.g=0)with
 |true =>
  refine⟨?_,z,z⟩;show Sm ((L.f x.a).getD jc).F;cases e:L.f x.a with
  |none=>exact z
  |some y=>exact(hz.f _ _ e).1
 |false =>
  cases decide (eG x.g=1)with
  |true =>
   refine⟨z,?_,z⟩;show Sm (((L.s x.a).map (·.Value)).getD []);cases e:L.s x.a with
   |none=>exact z
   |some y=>exact(hz.s _ _ e).1
  |false =>
   refine⟨z,z,?_⟩;show Sm ((L.v x.a).getD i9).a;cases e:L.v x.a with
   |none=>exact z
   |some y=>exact(hz.v _ _ e).1
theorem yP{L:Lw}{x:aa}{s:eo}(h:tA L (mZ x)=some s):Hh (vC L x)=s:=by
 unfold tA mZ at h;simp only at h;by_cases c:x.g=5
 .have b:eG x.g=1:=by rw[c];rfl
  rw[b,decide_eq_true (by omega:(1:Int)+1=2),cond_true]at h;have d:vC L x=⟨x.g,jc,⟨x.a,((L.s x.a).map (·.Value)).getD []⟩,i9⟩:=by unfold vC;rw[b];rfl
  rw[d];unfold Hh;rw[decide_eq_true (show(ak.mk x.g jc ⟨x.a,((L.s x.a).map (·.Value)).getD []⟩ i9).g=5 from c),cond_true];cases e:L.s x.a with
  |none=>rw[e]at h;cases h
  |some y=>rw[e]at h;exact Option.some.inj h
 .by_cases i:x.g=6
  .have b:eG x.g=2:=by rw[i];rfl
   rw[b,decide_eq_false (by omega:¬ (2:Int)+1=2),cond_false,decide_eq_true (by omega:(2:Int)+1=3),cond_true]at h;have d:vC L x=⟨x.g,jc,oO,(L.v x.a).getD i9⟩:=by unfold vC;rw[b];rfl
   rw[d];unfold Hh;rw[decide_eq_false (show ¬ (ak.mk x.g jc oO ((L.v x.a).getD i9)).g=5 from c),cond_false,decide_eq_true (show(ak.mk x.g jc oO ((L.v x.a).getD i9)).g=6 from i),cond_true];cases e:L.v x.a with
   |none=>rw[e]at h;cases h
   |some y=>rw[e]at h;exact Option.some.inj h
  .have b:eG x.g=0:=by unfold eG;rw[decide_eq_false c,decide_eq_false i];rfl
   rw[b,decide_eq_false (by omega:¬ (0:Int)+1=2),cond_false,decide_eq_false (by omega:¬ (0:Int)+1=3),cond_false]at h;have d:vC L x=⟨x.g,(L.f x.a).getD jc,oO,i9⟩:=by unfold vC;rw[b];rfl
   rw[d];unfold Hh;rw[decide_eq_false (show ¬ (ak.mk x.g ((L.f x.a).getD jc) oO i9).g=5 from c),cond_false,decide_eq_false (show ¬ (ak.mk x.g ((L.f x.a).getD jc) oO i9).g=6 from i),cond_false];cases e:L.f x.a with
   |none=>rw[e]at h;cases h
   |some y=>rw[e]at h;exact Option.some.inj h
theorem Un(h:Wr m1 m2 m3 M)(a:Good M)(x:aa)(F:List ab):A8 x F m1 m2 m3=some (rU (oL M) x):=by
 unfold A8 rU;rw[Uh h,zf];cases e:tA (oL M) (mZ x)with
 |none=>rfl
 |some s =>
  simp only[Option.isSome_some,Bool.not_true,cond_false];rw[KQ _ (lx (Sz.good a) x),zf,yP e];cases decide (s=x.y) <;> rfl
end
structure Wk(n:Nat)(m1:W1)(m2:W2)(m3:W3)(o:List ai):Prop where
 w:∃N,Good N/\Wr m1 m2 m3 N
 l:o.length<=n
 c:∀c∈o,kF c
section
variable {m1:W1} {m2:W2} {m3:W3} {o:List ai} {n:Nat}
theorem Wk.le{a:Nat}(h:Wk n m1 m2 m3 o)(b:n<=a):Wk a m1 m2 m3 o:=⟨h.w,Nat.le_trans h.l b,h.c⟩
theorem Wk.put(h:Wk n m1 m2 m3 o)(c:ai)(f:kF c)(F:List ab):∃e a b d,xP c F m1 m2 m3=some (e,a,b,d)/\Wk (n+1) a b d (o++[c]):=by
 obtain⟨N,g,i⟩:=h.w;obtain⟨a,b,d,j,k⟩:=Bv i g c f F;refine⟨_,a,b,d,j,⟨_,Ut g c,k⟩,?_,fun x hx=>?_⟩
 .have:=h.l;simp only[length_append,length_cons,length_nil];omega
 .rcases mem_append.1 hx with hx|hx
  .exact h.c x hx
  .rw[mem_singleton.1 hx];exact f
theorem MI(h:Wk n m1 m2 m3 o)(k:n<=1073741824)(c:ai)(g:kF c)(H:List aa)(e:Int)(F:List ab)(i:List am) :
  Ends (mq c H e F m1 m2 m3 o i) fun r=>Wk (n+1) r.2.1 r.2.2.1 r.2.2.2.1 r.2.2.2.2:=by
 obtain⟨m,a,b,d,j,f⟩:=h.put c g F;unfold mq;rw[zj (by have:=f.l;omega),j,zf];cases decide (e=0) <;> exact⟨_,rfl,f⟩
theorem tZ(h:Wk n m1 m2 m3 o)(j:n<=1073741824)(c:ai)(g:kF c)(H:List aa)(e:Int)(F:List ab) :
  Ends (Nl c H e F m1 m2 m3 o) fun r=>Wk (n+1) r.2.1 r.2.2.1 r.2.2.2.1 r.2.2.2.2:=by
 obtain⟨k,a,b,d,i,f⟩:=h.put c g F;unfold Nl;rw[zj (by have:=f.l;omega),i,zf];cases decide (e=0) <;> exact⟨_,rfl,f⟩
theorem KP(k:Int)(p:eo)(H:List aa)(e:Int)(F:List ab)(a:List am)(b:a.length<=1073741824):tu k p H e F m1 m2 m3 o a=some (a++[⟨k,p⟩]):=by unfold tu;rw[zj (by simp only[length_append,length_cons,length_nil];omega)]
theorem xV(h:Wk n m1 m2 m3 o)(i:n<=1073741824)(x:aa)(hx:Sm x.a)(H:List aa)(e:Int)(F:List ab)(d:List am) :
  Ends (LQ x H e F m1 m2 m3 o d) fun r=>Wk (n+1) r.2.1 r.2.2.1 r.2.2.2.1 r.2.2.2.2:=by
 have z:Sm ([]:eo):=Nat.zero_le _;unfold LQ;simp only[eJ,tm,zf];have f:∀(k:Int) (a b c:eo),Sm a->Sm b->Ends (call (mq (ai.mk k (ae.mk a [] false) (ab.mk b []) (ah.mk c [] false false)) H e F m1 m2 m3 o d) fun r=>some (r.1,r.2.1,r.2.2.1,r.2.2.2.1,r.2.2.2.2)) fun r=>Wk (n+1) r.2.1 r.2.2.1 r.2.2.2.1 r.2.2.2.2:=fun k a b c j l =>
  Ends.call (MI h i _ ⟨j,l,z⟩ H e F d) fun r m=>⟨_,rfl,m⟩
 unfold eG;cases decide (x.g=5)with
 |true=>exact f 4 [] x.a [] z hx
 |false =>
  cases decide (x.g=6)with
  |true=>exact f 6 [] [] x.a z z
  |false=>exact f 2 x.a [] [] hx z
end
def Mg:Prop:=∀a b c:eo,Sm a->Sm b->Sm c->Ends (EI a b c) fun _=>True
theorem X9(s:List aa)(f:aa):Ends (zY s f) fun _=>True:=by unfold zY;have e:Vd s f=tG (fun h=>Pl h f) s:=rfl;rw[e,xE (p:=fun h=>!decide (h.q=f.q)&&jM h f) s (fun h _=>by unfold Pl;rw[B0,zH];cases decide (h.q=f.q) <;> rfl),zf];exact⟨_,rfl,trivial⟩
theorem X8(s:List ak)(f:ae):Ends (zT s f) fun _=>True:=by unfold zT;have e:Vj s f=tG (fun h=>Pu h f) s:=rfl;rw[e,xE (p:=fun h=>decide (eG h.g=0)&&decide ((bif decide (eG h.g=0)then tz h else [])=f.a)) s (fun h _=>by unfold Pu;rw[tm,zf,VL,zH]),zf];exact⟨_,rfl,trivial⟩
theorem vJ{α β:Type}{P:β->Prop}(p:α->Bool){f:α->Unit->(Unit->Option β)->(Unit->Option β)->Option β}{k:Unit->Option β}{X:β}(l:List α)
  (i:∀x nx m,f x () nx m=bif p x then some X else nx ()) (t:P X) (n:Ends (k ()) P):Ends (forM f l.length l () k) P:=by
 obtain⟨Y,o,u⟩:=n;refine⟨bif l.any p then X else Y,?_,by cases l.any p <;> assumption⟩;refine Ub (fun r _=>l.any p=r.any p) (fun s q=>?_) (fun r s nx x j h hx g=>?_) _ _ _ rfl rfl
 .rw[q];exact o
 .have c:=UT hx
  have b:r.any p=(p x||(r.eraseIdx j).any p):=by
   rw[Bool.eq_iff_iff];simp only[Bool.or_eq_true,any_eq_true];constructor
   .rintro⟨y,d,a⟩;rcases mem_cons.1 (c.mem_iff.1 d)with rfl|d
    .exact .inl a
    .exact .inr ⟨y,d,a⟩
   .rintro(a|⟨y,d,a⟩)
    .exact⟨x,c.mem_iff.2 (mem_cons_self ..),a⟩
    .exact⟨y,c.mem_iff.2 (mem_cons_of_mem _ d),a⟩
  rw[i];cases e:p x with
  |true=>rw[h,b,e];rfl
  |false =>
   rw[cond_false];refine g () ?_;rw[h,b,e,Bool.false_or]
section
variable {m1:W1} {m2:W2} {m3:W3} {o:List ai} {n:Nat}
abbrev Wn(n:Nat)(r:Int×W1×W2×W3×List ai×List am):Prop:=Wk n r.2.1 r.2.2.1 r.2.2.2.1 r.2.2.2.2.1/\r.2.2.2.2.2.length<=n
theorem lenN{A:Type}{l:List A}{n:Nat}(h:l.length<=n)(x:A):(l++[x]).length<=n+1:=by simp only[length_append,length_cons,length_nil];omega
theorem rl(h:Wk n m1 m2 m3 o)(l:n<=1073741824)(x:aa)(hx:Sm x.a)(d:ax)(H:List aa)(e:Int)(F:List ab)(f:List am)(i:f.length<=n) :
  Ends (LO x d H e F m1 m2 m3 o f) (Wn (n+1)):=by
 obtain⟨N,m,p⟩:=h.w;unfold LO;rw[Un p m,zf];have c:Ends (some (e,m1,m2,m3,o,f)) (Wn (n+1)):=⟨_,rfl,h.le (by omega),Nat.le_succ_of_le i⟩;have j:Ends (call (LQ x H e F m1 m2 m3 o f) fun r=>some (r.1,r.2.1,r.2.2.1,r.2.2.2.1,r.2.2.2.2,f)) (Wn (n+1)) :=
  Ends.call (xV h l x hx H e F f) fun r q=>⟨_,rfl,q,Nat.le_succ_of_le i⟩
 have k:Ends (call (tu 6 x.a H e F m1 m2 m3 o f) fun r=>some (e,m1,m2,m3,o,r)) (Wn (n+1)):=by rw[KP _ _ _ _ _ _ (by omega),zf];exact⟨_,rfl,h.le (by omega),lenN i _⟩
 cases decide (rU (oL N) x=3)with
 |true=>exact c
 |false =>
  simp only[cond_false,eJ];cases decide (x.g=2)with
  |true =>
   simp only[cond_true];refine Ends.call (X9 _ _) fun b _=>?_;cases b with
   |true=>exact c
   |false=>cases (decide (rU (oL N) x=2)&&!d.O) <;> first|exact j|exact k
  |false =>
   simp only[cond_false];cases decide (x.g=3) <;> cases decide (x.g=4) <;> cases decide (x.g=5) <;> cases (decide (rU (oL N) x=2)&&!d.P) <;> first|exact j|exact k
theorem sT(h:Wk n m1 m2 m3 o)(B:n<=1073741824)(H:List aa)(e:Int)(F:List ab)(f:List am)(w:f.length<=n)(g:eo)(k:Int)(p d:eo)(L:p.length<=1073741824)(b:Bool)(C D E G:eo)(I J:Bool)(l:List ak) :
  Ends (EQ H e F m1 m2 m3 o f g k p d b C D E G I J l) (Wn (n+1)):=by
 have z:Sm ([]:eo):=Nat.zero_le _;unfold EQ;rw[KP _ _ _ _ _ _ (by omega),zf];have M:(p++([46,110,101,119]:eo)).length<=1073741828:=by simp only[length_append,length_cons,length_nil];omega
 have m:Sm (p++([46,110,101,119]:eo)):=by unfold Sm;omega
 rw[zj (by omega),AW _ m,zf];have t:Ends (some (e,m1,m2,m3,o,f++[⟨4,g⟩])) (Wn (n+1)):=⟨_,rfl,h.le (by omega),lenN w _⟩;have u:∀x:Bool,Ends (bif (!fE (p++([46,110,101,119]:eo)))||x then some (e,m1,m2,m3,o,f++[⟨4,g⟩])else
   jp (S:=Unit) (fun _ =>
    call (mq (ai.mk 1 (ae.mk (p++([46,110,101,119]:eo)) d b) (ab.mk [] []) (ah.mk [] [] false false)) H e F m1 m2 m3 o (f++[⟨4,g⟩])) fun a =>
    some (a.1,a.2.1,a.2.2.1,a.2.2.2.1,a.2.2.2.2,f++[⟨4,g⟩])) fun v =>
   forM (fun c s i A =>
    callG (!(decide (c.1=(p++([46,110,101,119]:eo))))) (tg c.1 (p++([46,110,101,119]:eo))) false fun j =>
    bif ((decide (c.1=(p++([46,110,101,119]:eo))))||j)then
     some (e,m1,m2,m3,o,f++[⟨4,g⟩])
    else
    i ()) m1.length m1 () (fun _ =>
    v ())) (Wn (n+1)):=by
  intro x;cases (!fE (p++([46,110,101,119]:eo)))||x with
  |true=>exact t
  |false =>
   simp only[cond_false,eJ];have y:Ends (call (mq (ai.mk 1 (ae.mk (p++([46,110,101,119]:eo)) d b) (ab.mk [] []) (ah.mk [] [] false false)) H e F m1 m2 m3 o (f++[⟨4,g⟩])) fun a =>
    some (a.1,a.2.1,a.2.2.1,a.2.2.2.1,a.2.2.2.2,f++[⟨4,g⟩])) (Wn (n+1)) :=
    Ends.call (MI h B _ ⟨m,z,z⟩ H e F _) fun r K=>⟨_,rfl,K,lenN w _⟩
   refine vJ (fun q=>decide (q.1=p++([46,110,101,119]:eo))||fI q.1 (p++([46,110,101,119]:eo))) m1 (fun q nx N=>?_) (X:=(e,m1,m2,m3,o,f++[⟨4,g⟩])) ⟨h.le (by omega),lenN w _⟩ y;rw[La _ _ (by omega),zH];cases decide (q.1=p++([46,110,101,119]:eo)) <;> rfl
 cases O:(!(!fE (p++([46,110,101,119]:eo))))with
 |true =>
  rw[AQ];exact Ends.call (X8 _ _) fun b _=>u b
 |false =>
  rw[UL];exact u false
end
theorem Ends.jp{S Z:Type}{F:S->Option Z}{G:(S->Option Z)->Option Z}{P:Z->Prop}(a:∀s,Ends (F s) P)(b:∀k,(∀s,Ends (k s) P)->Ends (G k) P):Ends (jp F G) P:=by rw[eJ];exact b F a
theorem Ends.jpI{S Z:Type}(I:S->Prop){F:S->Option Z}{G:(S->Option Z)->Option Z}{P:Z->Prop}(a:∀s,I s->Ends (F s) P)(b:∀k,(∀s,I s->Ends (k s) P)->Ends (G k) P):Ends (Vc.jp F G) P:=by rw[eJ];exact b F a
theorem Ends.bif{Z:Type}{b:Bool}{x y:Option Z}{P:Z->Prop}(hx:b=true->Ends x P)(a:b=false->Ends y P):Ends (bif b then x else y) P:=by
 cases b with
 |true=>exact hx rfl
 |false=>exact a rfl
structure It(x:ak):Prop where
 m:Yp x
 z:TL x
 p:x.j.a.length<=1073741824
section
variable {m1:W1} {m2:W2} {m3:W3} {o:List ai} {n:Nat}
theorem znX(h:Wk n m1 m2 m3 o)(d:n<=1073741824)(c:ai)(f:kF c)(H:List aa)(e:Int)(F:List ab)(b a:List am)(g:a.length<=n+1) :
  Ends (call (mq c H e F m1 m2 m3 o b) fun r=>some (r.1,r.2.1,r.2.2.1,r.2.2.2.1,r.2.2.2.2,a)) (Wn (n+1)) :=
 Ends.call (MI h d c f H e F b) fun r i=>⟨_,rfl,i,g⟩
theorem xU(g:Mg)(h:Wk n m1 m2 m3 o)(v:n<=1073741824){x:ak}(hx:It x){is:ak}(hi:TL is)(f q s:Bool){t:aa}(w:Sm t.E)(l:List ak)(H:List aa)(e:Int)(F:List ab)(b:List am)(i:b.length<=n) :
  Ends (Pe x is f q t s l H e F m1 m2 m3 o b) (Wn (n+1)):=by
 have z:Sm ([]:eo):=Nat.zero_le _;have c:Ends (some (e,m1,m2,m3,o,b)) (Wn (n+1)):=⟨_,rfl,h.le (by omega),Nat.le_succ_of_le i⟩;have u:Ends (call (EQ H e F m1 m2 m3 o b x.j.a x.g x.j.a x.j.F x.j.G x.x.r x.x.Value x.h.C x.h.a x.h.H x.h.I l) fun r=>some (r.1,r.2.1,r.2.2.1,r.2.2.2.1,r.2.2.2.2.1,r.2.2.2.2.2)) (Wn (n+1)) :=
  Ends.call (sT h v H e F b i _ _ _ _ hx.p _ _ _ _ _ _ _ l) fun r k=>⟨_,rfl,k⟩
 unfold Pe;refine Ends.bif (fun _=>?_) fun _=>Ends.bif (fun _=>c) fun _=>?_
 .rw[Mv,zf];refine Ends.call (MI h v _ (kX hx.m) H e F b) fun r k=>Ends.bif (fun _=>?_) fun _=>⟨_,rfl,k,Nat.le_succ_of_le i⟩;rw[KP _ _ _ _ _ _ (by omega),zf];exact⟨_,rfl,k,lenN i _⟩
 .rw[KQ is hi,zH];refine Ends.bif (fun _=>?_) fun _=>Ends.bif (fun _=>c) fun _=>Ends.bif (fun _=>?_) fun _=>u
  .rw[Mv,zf];exact znX h v _ (kX hx.m) H e F b b (Nat.le_succ_of_le i)
  .refine Ends.call (g _ _ _ w hi.d hx.z.d) fun r _=>Ends.bif (fun _=>u) fun _=>?_;refine Ends.call (MI h v _ ⟨hx.m.fp,z,z⟩ H e F b) fun r k=>?_;rw[KP _ _ _ _ _ _ (by omega),zf];exact⟨_,rfl,k,lenN i _⟩
theorem wr(g:Mg)(h:Wk n m1 m2 m3 o)(q:n<=1073741824){x:ak}(hx:It x)(s:aa){i:aa}(u:Sm i.E)(j:Bool)(l:List ak)(H:List aa)(e:Int)(F:List ab)(b:List am)(d:b.length<=n) :
  Ends (O9 x s i j l H e F m1 m2 m3 o b) (Wn (n+1)):=by
 obtain⟨N,v,y⟩:=h.w;have hi:=lx (Sz.good v) s;have a:Ends (some (e,m1,m2,m3,o,b)) (Wn (n+1)):=⟨_,rfl,h.le (by omega),Nat.le_succ_of_le d⟩;have c:Ends (call (mq (ql x) H e F m1 m2 m3 o b) fun r=>some (r.1,r.2.1,r.2.2.1,r.2.2.2.1,r.2.2.2.2,b)) (Wn (n+1)):=znX h q _ (kX hx.m) H e F b b (Nat.le_succ_of_le d);unfold O9;rw[Uh y,zf,KQ _ hi];simp only[zH];rw[Mv,zf];refine Ends.jp (fun t=>Ends.bif (fun _=>Ends.bif (fun _=>a) fun _=>?_) fun _=>Ends.bif (fun _=>Ends.bif (fun _=>c) fun _=>a) fun _=>Ends.bif (fun _=>Ends.bif (fun _=>c) fun _=>Ends.bif (fun _=>?_) fun _=>a) fun _=>Ends.bif (fun _=>?_) fun _=>a) fun k f=>?_
 .refine Ends.jpI (fun p:List am=>p.length<=n+1) (fun p z=>?_) fun k f=>?_
  .exact znX h q _ ⟨hx.m.fp,hx.m.sp,hx.m.vp⟩ H e F p p z
  .refine Ends.bif (fun _=>?_) fun _=>f _ (Nat.le_succ_of_le d);rw[KP _ _ _ _ _ _ (by omega),zf];exact f _ (lenN d _)
 .rw[KP _ _ _ _ _ _ (by omega),zf];exact⟨_,rfl,h.le (by omega),lenN d _⟩
 .exact Ends.call (xU g h q hx hi _ _ _ u l H e F b d) fun r A=>⟨_,rfl,A⟩
 .exact Ends.bif (fun _=>f _) fun _=>Ends.bif (fun _=>f _) fun _=>f _
end
def gJ(h:aa):eo×aq:=(h.q,mZ h)
theorem uY(a b:aa):jo a b=gS a.q a.g a.a b.q b.g b.a:=by
 unfold jo gS;rw[k5,k5];by_cases h:eU a.q b.q=0
 .rw[decide_eq_true h,if_neg (fun g=>g h)];by_cases c:eG a.g=eG b.g
  .rw[if_neg (by omega),decide_eq_true (by omega:eG a.g-eG b.g=0)];rfl
  .rw[if_pos (by omega),decide_eq_false (by omega)];show eG a.g-eG b.g=_;omega
 .rw[decide_eq_false h,if_pos h];rfl
theorem uX{a b:aa}(h:gJ a=gJ b):jo a b=0:=by
 unfold gJ mZ at h;simp only[Prod.mk.injEq,aq.mk.injEq]at h;obtain⟨c,e,d⟩:=h;unfold jo;rw[c,d,Mz,decide_eq_true (by omega:eG a.g-eG b.g=0),Mz];rfl
theorem ym{a b c:aa}(e:jo a b<0)(f:jo b c<0):jo a c<0:=by
 rw[uY]at *;have h:=Uz (Int.le_of_lt e) (Int.le_of_lt f);rcases Int.lt_or_eq_of_le h with d|d
 .exact d
 .obtain⟨i,j,k⟩:=V4 d;have l:=AK a.q a.g a.a b.q b.g b.a;have:gS b.q b.g b.a a.q a.g a.a=gS b.q b.g b.a c.q c.g c.a:=by unfold gS;rw[i,j,k]
  omega
theorem kj{α:Type}(e:Nat->α->Int):∀(l:List α) (i:Nat),iW e i l=0->∀j (h:j<l.length),e (i+j) l[j]=0
 |[],i,_,j,h=>by cases h
 |x::l,i,a,j,h=>by
  unfold iW at a;by_cases b:e i x=0
  .rw[decide_eq_true b,Bool.not_true,cond_false]at a;cases j with
   |zero=>exact b
   |succ j =>
    have:=kj e l (i+1) a j (by simpa using h);rw[show i+(j+1)=i+1+j by omega];exact this
  .rw[decide_eq_false b]at a;exact absurd a b
structure KR(k:al):Prop where
 n:k.k.length<=5000
 nd:(k.k.map gJ).Nodup
theorem xM{k:al}(h:wZ k=0):KR k:=by
 unfold wZ at h;by_cases m:5000<(k.k.length:Int)
 .rw[decide_eq_true m]at h;cases h
 rw[decide_eq_false m,cond_false]at h;by_cases f:iW (jB k.k) 0 k.k=0
 .have b:=kj _ _ _ f
  have c:∀j (a:j+1<k.k.length),jo k.k[j] k.k[j+1]<0:=by
   intro j a;have:=b (j+1) a;unfold jB at this;by_cases g:iX k.k[j+1]=0
   .rw[decide_eq_true g,Bool.not_true,cond_false]at this;rw[show 0+(j+1)-1=j by omega,getD_eq_getElem?_getD,getElem?_eq_getElem (by omega:j<k.k.length),Option.getD_some,decide_eq_true (by omega),Bool.true_and]at this;by_cases n:0<=jo k.k[j] k.k[j+1]
    .rw[decide_eq_true n]at this;cases this
    .omega
   .rw[decide_eq_false g]at this;exact absurd this g
  have l:∀d i (a:i+d+1<k.k.length),jo k.k[i] k.k[i+d+1]<0:=by
   intro d;induction d with
   |zero=>intro i a;exact c i a
   |succ d o=>intro i a;exact ym (o i (by omega)) (c (i+d+1) a)
  refine⟨by omega,?_⟩;rw[List.Nodup,pairwise_map,pairwise_iff_getElem];intro i j hi a p e;have:=l (j-i-1) i (by omega);have q:i+(j-i-1)+1=j:=by omega
  simp only[q]at this;rw[uX e]at this;omega
 .rw[decide_eq_false f]at h;exact absurd h f
theorem uI(o:eo)(x y:ak):jM (nz o x) (nz o y)=decide (qw x=qw y):=by
 show(decide (eG x.g=eG y.g)&&decide (tz x=tz y))=decide ((⟨eG x.g+1,tz x⟩:aq)=⟨eG y.g+1,tz y⟩);rw[Bool.eq_iff_iff];simp only[Bool.and_eq_true,decide_eq_true_eq,aq.mk.injEq];constructor
 .rintro⟨a,b⟩;exact⟨by omega,b⟩
 .rintro⟨a,b⟩;exact⟨by omega,b⟩
theorem uy(o:eo){x:ak}(hx:It x)(a:Sm x.h.C):l8 (nz o x):=by
 refine⟨?_,?_⟩
 .show Sm (tz x);unfold tz;cases decide (x.g=5) <;> cases decide (x.g=6) <;> first|exact hx.m.fp|exact hx.m.sp|exact a
 .show Sm (bif decide (x.g=3)then x.j.F else []);cases decide (x.g=3) <;> first|exact hx.z.d|exact Nat.zero_le _
theorem pM(p:eo):Ends (B1 p) fun _=>True:=by unfold B1;rw[La _ _ (by decide),zf];exact⟨_,rfl,trivial⟩
theorem vB(k:al)(o:eo)(l:List ak)(E:∀x∈l,It x):Ends (Nj k o l) fun e=>e=0->(l.map qw).Nodup/\l.length<=5000:=by
 unfold Nj;refine Ends.bif (fun _=>⟨4,rfl,fun h=>absurd h (by decide)⟩) fun F=>?_;have F:=of_decide_eq_false F;rw[eJ];refine mh (fun i r _=>l=l.take i++r/\i+r.length=l.length/\((l.take i).map qw).Nodup) (fun i s h=>?_) (fun i x r s nx h v=>?_) l 0 () ⟨by simp,by simp,by simp⟩
 .obtain⟨p,w,A⟩:=h;rw[append_nil]at p;exact⟨0,rfl,fun _=>⟨by rw[p];exact A,by omega⟩⟩
 .obtain⟨p,w,A⟩:=h;have hx:x∈l:=by rw[p];simp
  have q:=E x hx;simp only[eJ];rw[V1 _ q.m,zf];refine Ends.bif (fun B=>⟨_,rfl,fun h=>absurd h (by simpa using B)⟩) fun _=>?_;rw[BZ _ _ q.z,zf];have hi:i<l.length:=by simp only[length_cons]at w;omega
  have next:(∀y∈l.take i,qw y≠qw x)->Ends (nx ()) fun e=>e=0->(l.map qw).Nodup/\l.length<=5000:=by
   intro n;have C:l[i]?=some x:=by rw[p,getElem?_append_right (by rw[length_take];omega),length_take];simp[show i-min i l.length=0 by omega]
   have G:l.take (i+1)=l.take i++[x]:=by rw[take_add_one,C];rfl
   refine v () ⟨?_,by simp only[length_cons]at w;omega,?_⟩
   .rw[G,append_assoc];exact p
   .rw[G,map_append,nodup_append];refine⟨A,by simp,fun a I b H e=>?_⟩;obtain⟨y,f,rfl⟩:=mem_map.1 I;simp only[map_cons,map_nil,mem_singleton]at H;exact n y f (e.trans H)
  rw[zj (by omega)];refine mh (fun j u _=>(∀y∈u,y∈l)/\∀y∈l.take i,y∈u∨qw y≠qw x) (fun j s h=>?_) (fun j y u s D h c=>?_) (l.take i) 0 () ⟨fun y f=>mem_of_mem_take f,fun y f=>.inl f⟩
  .have n:∀y∈l.take i,qw y≠qw x:=fun y f=>(h.2 y f).resolve_left (by simp);refine mh (fun _ _ _=>True) (fun j s _=>?_) (fun j y u s D _ c=>?_) k.k 0 () trivial
   .rw[tm,zf]
    have t:∀b:Bool,Ends (bif decide (eG x.g=0)&&(decide (x.j.a=([115,116,97,103,101]:eo))||b)then some 17 else nx ()) fun e=>e=0->(l.map qw).Nodup/\l.length<=5000:=fun b =>
     Ends.bif (fun _=>⟨17,rfl,fun h=>absurd h (by decide)⟩) fun _=>next n
    cases (decide (eG x.g=0)&&!(decide (x.j.a=([115,116,97,103,101]:eo))))with
    |true=>rw[AQ];exact Ends.call (pM _) fun b _=>t b
    |false=>rw[UL];exact t false
   .rw[B0,zH];exact Ends.bif (fun _=>⟨11,rfl,fun h=>absurd h (by decide)⟩) fun _=>c () trivial
  .have f:y∈l:=h.1 y (mem_cons_self ..);rw[BZ _ _ (E y f).z,zf,B0,zf,uI];refine Ends.bif (fun _=>⟨6,rfl,fun h=>absurd h (by decide)⟩) fun B=>c () ⟨fun z hz=>h.1 z (mem_cons_of_mem _ hz),fun z hz=>?_⟩;rcases h.2 z hz with d|d
   .rcases mem_cons.1 d with e|d
    .rw[e];exact .inr (of_decide_eq_false B)
    .exact .inl d
   .exact .inr d
structure KO(k:al):Prop where
 e:wZ k=0
 s:∀h∈k.k,l8 h
def RO(r:ap×Int):Prop:=r.2=0->(∀c∈r.1.L,kF c)/\KO r.1.Q
theorem tL{r:ap}{e:Int}(h:decide (e=0)=false):RO (r,e):=fun g=>absurd g (of_decide_eq_false h)
theorem ux{l:List aa}(d:(l.map gJ).Nodup):EW l=some (mK l):=by
 unfold EW;refine MZ ⟨mK l,MW l,mJ l⟩ fun j ⟨c,e⟩=>congrArg some ?_;refine List.Perm.eq_of_pairwise (le:=leH) (fun a b f g h i=>?_) e (mJ l) (c.trans (MW l).symm);exact vq d (c.mem_iff.1 f) ((MW l).mem_iff.1 g) h i
structure Vy(ow:eo)(l:List aa):Prop where
 o:∀h∈l,h.q=ow/\l8 h
 nd:(l.map gJ).Nodup
 n:l.length<=5000
theorem yq(a:eo):Vy a []:=⟨by simp,by simp,by simp⟩
theorem qE{c:eo}{l H:List aa}(h:Vy c l)(d:KO ⟨H⟩):((l++H.filter fun h=>!decide (h.q=c)).map gJ).Nodup/\(∀x∈l++H.filter fun h=>!decide (h.q=c),l8 x):=by
 have g:=xM d.e;refine⟨?_,fun x hx=>?_⟩
 .rw[map_append,nodup_append];refine⟨h.nd,List.Nodup.sublist (List.Sublist.map _ filter_sublist) g.nd,fun a i b j e=>?_⟩;obtain⟨x,hx,rfl⟩:=mem_map.1 i;obtain⟨y,k,rfl⟩:=mem_map.1 j;have m:=(h.o x hx).1;have f:=(mem_filter.1 k).2;have n:x.q=y.q:=congrArg Prod.fst e;rw[<-n,m]at f;simp at f
 .rcases mem_append.1 hx with hx|hx
  .exact(h.o x hx).2
  .exact d.s x (mem_filter.1 hx).1
section
variable {o:List ai}
theorem qN(g:∀c∈o,kF c){l:List aa}(h:(l.map gJ).Nodup)(i:∀x∈l,l8 x)(e:List am) :
  Ends (call (EW l) fun a =>
  call (rF (al.mk a)) fun b =>
  bif !decide (b=0)then
   some ((ap.mk [] (al.mk []) []),b,o,e,a)
  else
  some ((ap.mk o (al.mk a) e),0,o,e,a)) fun r:ap×Int×List ai×List am×List aa=>RO (r.1,r.2.1):=by
 rw[ux h,zf];have d:∀x∈mK l,l8 x:=fun x hx=>i x ((MW l).mem_iff.1 hx);rw[B3 ⟨mK l⟩ d,zf];refine Ends.bif (fun f=>⟨_,rfl,tL (by simpa using f)⟩) fun f=>⟨_,rfl,fun _=>⟨g,?_,d⟩⟩;simpa using f
theorem pV{d:eo}{H b:List aa}(f:KO ⟨H⟩)(a:Vy d b)(j:∀c∈o,kF c)(e:Int)(F:List ab)(l:W1)(m:W2)(p:W3)(g:List am) :
  Ends (Pm d H e F l m p o g b) fun r=>RO (r.1,r.2.1):=by
 have s:=(xM f.e).n;have t:=a.n;simp only at s;unfold Pm;refine Ends.bif (fun u=>⟨_,rfl,tL (by simpa using u)⟩) fun _=>?_;rw[eJ];rw[AP (fun h:aa=>!decide (h.q=d)) id 20000 (fun i x o nx k y=>by rw[zj (by simp only[length_append,length_cons,length_nil];omega)];rfl) H 0 b (by omega),map_id];obtain⟨v,w⟩:=qE a f;exact qN j v w g
theorem pU{a:eo}{H:List aa}(b:KO ⟨H⟩)(f:∀c∈o,kF c)(e:Int)(F:List ab)(g:W1)(j:W2)(l:W3)(d:List am) :
  Ends (Pn a H e F g j l o d) fun r=>RO (r.1,r.2.1):=by
 have m:=(xM b.e).n;simp only at m;unfold Pn;refine Ends.bif (fun p=>⟨_,rfl,tL (by simpa using p)⟩) fun _=>?_;rw[eJ];rw[AP (fun h:aa=>!decide (h.q=a)) id 20000 (fun i x o nx k u=>by rw[zj (by simp only[length_append,length_cons,length_nil];omega)];rfl) H 0 [] (by simp only[length_nil];omega),map_id];obtain⟨s,t⟩:=qE (yq a) b;exact qN f s t d
end
theorem vA{A:Type}(p:A->Bool)(l:List A):sm p l=-1∨∃i:Nat,∃h:i<l.length,sm p l=i:=by
 unfold sm;cases h:l.findIdx? p with
 |none=>exact .inl rfl
 |some i =>
  obtain⟨hi,_⟩:=findIdx?_eq_some_iff_getElem.1 h;exact .inr ⟨i,hi,rfl⟩
theorem Ho{H:List aa}(d:∀h∈H,l8 h)(x:aa)(c:eo):Ends (O1 x H c) fun r=>Sm r.1.E:=by
 unfold O1;have e:Ve H c x=tG (fun h=>Pb h c x) H:=rfl;rw[e,xE (pr:=fun h=>Pb h c x) (p:=fun h=>(decide (h.q=c)&&decide (h.g=x.g))&&decide (h.a=x.a)) H (fun h _=>rfl),zf];rcases vA (fun h:aa=>(decide (h.q=c)&&decide (h.g=x.g))&&decide (h.a=x.a)) H with h|⟨i,hi,h⟩
 .rw[h];exact⟨_,rfl,Nat.zero_le _⟩
 .rw[h,decide_eq_false (by omega:¬ (i:Int)<0),cond_false];rw[oF hi];exact⟨_,rfl,(d _ (getElem_mem _)).b⟩
theorem Ya(s:List aa)(f:aa):Ends (zZ s f) fun _=>True:=by unfold zZ;have e:Vb s f=tG (fun h=>O0 h f) s:=rfl;rw[e,xE (p:=fun h=>jM h f) s (fun h _=>by unfold O0;rw[B0];rfl),zf];exact⟨_,rfl,trivial⟩
theorem X7(s:List ak)(f:aa):Ends (zU s f) fun _=>True:=by unfold zU;have e:Vi s f=tG (fun h=>Ni h f) s:=rfl;rw[e,xE (p:=fun h=>decide (h.g=f.g)&&decide ((bif decide (h.g=f.g)then tz h else [])=f.a)) s (fun h _=>by unfold Ni;rw[VL,zH]),zf];exact⟨_,rfl,trivial⟩
theorem X6(s:List aa)(f:eo):Ends (zX s f) fun _=>True:=by unfold zX;have e:Vf s f=tG (fun h=>Pc h f) s:=rfl;rw[e,xE (pr:=fun h=>Pc h f) (p:=fun h=>decide (h.q=f)) s (fun h _=>rfl),zf];exact⟨_,rfl,trivial⟩
theorem X5(s:List aa)(f:eo):Ends (zW s f) fun _=>True:=by unfold zW;have e:Vg s f=tG (fun h=>O6 h f) s:=rfl;rw[e,xE (pr:=fun h=>O6 h f) (p:=fun h=>decide (h.q=f)) s (fun h _=>rfl),zf];exact⟨_,rfl,trivial⟩
theorem Ends.callG{A Z:Type}{g:Bool}{a:Option A}{d:A}{k:A->Option Z}{P:Z->Prop}(h:Ends a fun _=>True)(b:∀x,Ends (k x) P):Ends (Vc.callG g a d k) P:=by
 cases g with
 |true=>rw[AQ];exact Ends.call h fun x _=>b x
 |false=>rw[UL];exact b d
theorem v6{M:aj}(t:Good M){k:al}(j:KO k)(y:eo)(l:ax):Ends (MO M k y l) RO:=by
 have J:=(xM j.e).n;unfold MO;rw[Ln _ t.fit,zf,B3 _ j.s,zf,xg,zf,th,zf,KF,zf];refine Ends.jp (fun e=>Ends.bif (fun z=>⟨_,rfl,tL (by simpa using z)⟩) fun _=>?_) fun A g=>Ends.callG (X6 _ _) fun b=>Ends.bif (fun _=>g _) fun _=>g _;obtain⟨B,C,D,E,F⟩:=EG t;rw[E,zf];refine Ends.jpI (fun s:W1×W2×W3×Int×List ai×List am=>Wk 5000 s.1 s.2.1 s.2.2.1 s.2.2.2.2.1) (fun s G=>?_) fun A g=>?_
 .obtain⟨a,b,c,d,e,f⟩:=s;exact Ends.call (pU (by exact⟨j.e,j.s⟩) G.c d _ a b c f) fun r q=>⟨_,rfl,q⟩
 .refine mh (fun i r s=>(∀h∈r,h∈k.k)/\i+r.length=k.k.length/\Wk i s.1 s.2.1 s.2.2.1 s.2.2.2.2.1/\s.2.2.2.2.2.length<=i) (fun i s h=>?_) (fun i x r s nx h m=>?_) k.k 0 (B,C,D,0,[],[]) ⟨fun _ h=>h,by omega,⟨⟨M,t,F⟩,Nat.le_refl _,by simp⟩,Nat.le_refl _⟩
  .obtain⟨a,b,c,d,e,f⟩:=s;exact g _ (h.2.2.1.le (by have:=h.2.1;simp only[length_nil]at this;omega))
  .obtain⟨a,b,c,d,e,f⟩:=s;obtain⟨u,H,v,w⟩:=h;simp only[length_cons]at H;have q:=fun h I=>u h (mem_cons_of_mem x I);refine Ends.bif (fun _=>?_) fun _=>m _ ⟨q,by omega,v.le (by omega),Nat.le_succ_of_le w⟩;exact Ends.call (rl v (by omega) x (j.s x (u x (mem_cons_self ..))).p l _ d _ f w) fun r o=>m _ ⟨q,by omega,o.1,o.2⟩
structure TO(x:ak):Prop extends It x where
 v:Sm x.h.C
theorem r9(c:eo){l:List ak}(d:∀x∈l,TO x)(f:(l.map qw).Nodup)(g:l.length<=5000):Vy c (l.map (nz c)):=by
 refine⟨fun h i=>?_,?_,by simpa using g⟩
 .obtain⟨x,hx,rfl⟩:=mem_map.1 i;exact⟨rfl,uy c (d x hx).toIt (d x hx).v⟩
 .rw[map_map];rw[List.Nodup,pairwise_map]at f|-;refine List.Pairwise.imp (fun {a b} h e=>h ?_) f;exact congrArg Prod.snd e
theorem sS(g:Mg){M:aj}(H:Good M){k:al}(E:KO k)(w:eo)(l:List ak)(I:∀x∈l,TO x)(F:ax):Ends (L6 M k w l F) RO:=by
 have hn:=(xM E.e).n;unfold L6;rw[Ln _ H.fit,zf,B3 _ E.s,zf,xg,zf,th,zf,KF,zf];refine Ends.jpI (fun e=>e=0->(l.map qw).Nodup/\l.length<=5000) (fun e T=>Ends.bif (fun B=>⟨_,rfl,tL (by simpa using B)⟩) fun B=>?_) fun J j=>Ends.bif (fun _=>Ends.call (vB k w l fun x hx=>(I x hx).toIt) fun e B=>j e B) fun B=>j _ fun h=>absurd h (of_decide_eq_false B);obtain⟨K,U⟩:=T (by simpa using B);obtain⟨V,W,X,Y,R⟩:=EG H;rw[Y,zf];refine Ends.jp (fun _=>?_) fun J j=>?_
 .refine Ends.jpI (fun s:W1×W2×W3×Int×List ai×List am=>Wk 5000 s.1 s.2.1 s.2.2.1 s.2.2.2.2.1/\s.2.2.2.2.2.length<=5000) (fun s L=>?_) fun J j=>?_
  .obtain⟨a,b,c,d,e,f⟩:=s;obtain⟨C,q⟩:=L;refine Ends.jpI (fun s:W1×W2×W3×Int×List ai×List am×List aa=>Wk 10000 s.1 s.2.1 s.2.2.1 s.2.2.2.2.1/\s.2.2.2.2.2.2=l.map (nz w)) (fun s L=>?_) fun J j=>?_
   .obtain⟨a,b,c,d,e,f,N⟩:=s;obtain⟨C,q⟩:=L;simp only at q;refine Ends.call (pV (by exact⟨E.e,E.s⟩) (by rw[q];exact r9 w I K U) C.c d _ a b c f) fun r o=>⟨_,rfl,o⟩
   .refine mh (fun i r s=>l=l.take i++r/\i+r.length=l.length/\s.2.2.2.2.2.2=(l.take i).map (nz w)/\Wk (5000+i) s.1 s.2.1 s.2.2.1 s.2.2.2.2.1/\s.2.2.2.2.2.1.length<=5000+i) (fun i s h=>?_) (fun i x r s nx h m=>?_) l 0 (a,b,c,d,e,f,[]) ⟨by simp,by omega,by simp,C,q⟩
    .obtain⟨a,b,c,d,e,f,N⟩:=s;obtain⟨t,D,A,u,O⟩:=h;simp only[length_nil]at D;rw[append_nil]at t;refine j _ ⟨u.le (by omega),?_⟩;rw[A,<-t]
    .obtain⟨a,b,c,d,e,f,N⟩:=s;obtain⟨t,D,A,u,O⟩:=h;simp only[length_cons]at D;have hx:x∈l:=by rw[t];simp
     have v:=I x hx;have P:l[i]?=some x:=by rw[t,getElem?_append_right (by rw[length_take];omega),length_take];simp[show i-min i l.length=0 by omega]
     have S:l.take (i+1)=l.take i++[x]:=by rw[take_add_one,P];rfl
     simp only at A u O|-;rw[BZ _ _ v.z,zf,zj (by rw[A];simp only[length_append,length_map,length_take,length_cons,length_nil];omega)];refine Ends.call (Ho E.s _ w) fun Q Z=>?_;refine Ends.call (wr g u (by omega) v.toIt (nz w x) Z Q.2 l k.k d _ f O) fun r o=>?_;refine m _ ⟨by rw[S,append_assoc];exact t,by omega,?_,o.1,o.2⟩;show N++[nz w x]=_;rw[A,S,map_append];rfl
  .refine mh (fun i r s=>(∀h∈r,h∈k.k)/\i+r.length=k.k.length/\Wk i s.1 s.2.1 s.2.2.1 s.2.2.2.2.1/\s.2.2.2.2.2.length<=i) (fun i s h=>?_) (fun i x r s nx h m=>?_) k.k 0 (V,W,X,0,[],[]) ⟨fun _ h=>h,by omega,⟨⟨M,H,R⟩,Nat.le_refl _,by simp⟩,Nat.le_refl _⟩
   .obtain⟨a,b,c,d,e,f⟩:=s;have D:=h.2.1;have u:=h.2.2.2;simp only[length_nil]at D u;exact j _ ⟨h.2.2.1.le (by omega),by simp only;omega⟩
   .obtain⟨a,b,c,d,e,f⟩:=s;obtain⟨t,D,A,u⟩:=h;simp only[length_cons]at D;have o:=fun h hh=>t h (mem_cons_of_mem x hh);refine Ends.callG (X7 _ _) fun bb=>Ends.bif (fun _=>?_) fun _=>m _ ⟨o,by omega,A.le (by omega),Nat.le_succ_of_le u⟩;exact Ends.call (rl A (by omega) x (E.s x (t x (mem_cons_self ..))).p F _ d _ f u) fun r G=>m _ ⟨o,by omega,G.1,G.2⟩
 .refine mh (fun _ r _=>∀x∈r,x∈l) (fun i s h=>j _) (fun i x r s nx h m=>?_) l 0 () fun _ h=>h;have v:=I x (h x (mem_cons_self ..));have o:=fun y hy=>h y (mem_cons_of_mem x hy);rw[BZ _ _ v.z,zf];refine Ends.bif (fun _=>m _ o) fun _=>?_;rw[Un R H,zf];exact Ends.callG (Ya _ _) fun bb=>Ends.bif (fun _=>⟨_,rfl,tL (by decide)⟩) fun _=>m _ o
theorem XK(H:List aa)(b:eo)(x:aa):PB H b x=some (sm (fun h=>(decide (h.q=b)&&decide (h.g=x.g))&&decide (h.a=x.a)) H):=by have e:PB H b x=tG (fun h=>O7 h b x) H:=rfl;rw[e,xE (pr:=fun h=>O7 h b x) (p:=fun h=>(decide (h.q=b)&&decide (h.g=x.g))&&decide (h.a=x.a)) H (fun h _=>rfl)]
theorem pp{M:aj}(v:Good M){k:al}(D:KO k)(u:eo)(l:List ak)(G:∀x∈l,TO x)(T:l.length<=1073741824):Ends (Ms M k u l) RO:=by
 unfold Ms;rw[Ln _ v.fit,zf,B3 _ D.s,zf,xg,zf,th,zf,KF,zf];refine Ends.jp (fun e=>Ends.bif (fun o=>⟨_,rfl,tL (by simpa using o)⟩) fun _=>?_) fun H n=>Ends.callG (X5 _ _) fun b=>Ends.bif (fun _=>n _) fun _=>n _;obtain⟨I,J,K,L,O⟩:=EG v;rw[L,zf];refine Ends.jpI (fun s:W1×W2×W3×Int×List ai=>Wk 1073741824 s.1 s.2.1 s.2.2.1 s.2.2.2.2) (fun s P=>?_) fun H n=>?_
 .obtain⟨a,b,c,d,e⟩:=s;exact Ends.bif (fun o=>⟨_,rfl,tL (by simpa using o)⟩) fun o=>⟨_,rfl,fun _=>⟨P.c,D⟩⟩
 .refine mh (fun i r s=>(∀x∈r,x∈l)/\i+r.length=l.length/\Wk i s.1 s.2.1 s.2.2.1 s.2.2.2.2) (fun i s h=>?_) (fun i x r s nx h p=>?_) l 0 (I,J,K,0,[]) ⟨fun _ h=>h,by omega,⟨⟨M,v,O⟩,Nat.le_refl _,by simp⟩⟩
  .obtain⟨a,b,c,d,e⟩:=s;have y:=h.2.1;simp only[length_nil]at y;exact n _ (h.2.2.le (by omega))
  .obtain⟨a,b,c,d,e⟩:=s;obtain⟨E,y,A⟩:=h;simp only[length_cons]at y;have F:=fun h Q=>E h (mem_cons_of_mem x Q);have f:=G x (E x (mem_cons_self ..));have B:=A;obtain⟨N,R,t⟩:=B.w;simp only at t|-;rw[V1 _ f.m,zf];refine Ends.bif (fun o=>⟨_,rfl,tL (by simpa using o)⟩) fun _=>?_;rw[BZ _ _ f.z,zf,XK,zf];rcases vA (fun h:aa=>(decide (h.q=u)&&decide (h.g=(nz u x).g))&&decide (h.a=(nz u x).a)) k.k with h|⟨j,S,h⟩
   .rw[h];exact⟨_,rfl,tL (by decide)⟩
   .rw[h,decide_eq_false (by omega:¬ (j:Int)<0),cond_false,oF S];refine Ends.bif (fun _=>⟨_,rfl,tL (by decide)⟩) fun _=>?_;rw[Uh t,zf,show AH x.g=some (((decide (x.g=1))||(decide (x.g=2)))||(decide (x.g=6)))from rfl,zH,KQ _ (lx (Sz.good R) _),zH];refine Ends.bif (fun _=>?_) fun _=>p _ ⟨F,by omega,A.le (by omega)⟩;rw[Mv,zf];exact Ends.call (tZ A (by omega) _ ⟨f.m.fp,f.m.sp,f.m.vp⟩ k.k d _) fun r C=>p _ ⟨F,by omega,C⟩
def lM(a:eo)(x h:aa):Bool:=decide (h.q=a)&&jM h x
theorem TK(h:aa)(b:eo)(x:aa):A0 h b x.q x.g x.a x.y x.E=some (lM b x h):=by
 unfold A0 lM;rw[B0,zH];cases decide (h.q=b) <;> rfl
theorem Yo(H:List aa)(c:H.length<=1073741824)(b:eo)(x:aa):zP H b x.q x.g x.a x.y x.E=some (sm (lM b x) H):=by have e:zP H b x.q x.g x.a x.y x.E=vN (aa.mk [] 0 [] [] []) (fun h=>A0 h b x.q x.g x.a x.y x.E) H:=rfl;rw[e,vM (p:=lM b x) H c fun h _=>TK h b x]
theorem Yn(H:List aa)(c:H.length<=1073741824)(b:eo)(x:aa):Ends (z7 H b x.q x.g x.a x.y x.E) fun r=>List.take r.1 r.2=H.filter fun h=>!lM b x h:=by
 have e:z7 H b x.q x.g x.a x.y x.E=Kb Prod.mk (aa.mk [] 0 [] [] []) (fun h=>A0 h b x.q x.g x.a x.y x.E) (zP H b x.q x.g x.a x.y x.E) H:=rfl;rw[e,Yo H c];obtain⟨z,f,i,o,rfl,j⟩:=y8 Prod.mk (d:=aa.mk [] 0 [] [] []) (p:=lM b x) H c fun h _=>TK h b x;exact⟨_,f,j⟩
def RA(r:al×Int):Prop:=r.2=0->KO r.1
theorem BE{r:al}{e:Int}(h:decide (e=0)=false):RA (r,e):=fun g=>absurd g (of_decide_eq_false h)
theorem s3{M:aj}(D:Good M){k:al}(E:KO k)(c:eo)(l:List ak)(O:∀x∈l,TO x)(hL:l.length<=536870912):Ends (L4 M k c l) RA:=by
 have P:=xM E.e;have T:=P.n;unfold L4;rw[Ln _ D.fit,zf,B3 _ E.s,zf,xg,zf,th,zf,KF,zf];refine Ends.bif (fun o=>⟨_,rfl,BE (by simpa using o)⟩) fun _=>?_;obtain⟨w1,w2,w3,U,V⟩:=EG D;rw[U,zf];have F:zI k.k=some k.k:=by
  unfold zI;refine MZ ⟨false,by simp⟩ fun b B=>?_;cases b with
  |true=>rw[B rfl];rfl
  |false=>rw[cond_false,zj (by simp only[nil_append];omega)];rfl
 rw[F,zf];refine Ends.jpI (fun s:List aa=>(s.map gJ).Nodup/\∀h∈s,l8 h) (fun s Q=>?_) fun W p=>?_
 .have w:∀x∈mK s,l8 x:=fun x hx=>Q.2 x ((MW s).mem_iff.1 hx);rw[ux Q.1,zf,B3 ⟨mK s⟩ w,zf];exact Ends.bif (fun o=>⟨_,rfl,BE (by simpa using o)⟩) fun o=>⟨_,rfl,fun _=>⟨by simpa using o,w⟩⟩
 .refine mh (fun i r s=>(∀x∈r,x∈l)/\i+r.length=l.length/\((s.map gJ).Nodup/\∀h∈s,l8 h)/\s.length<=5000+i) (fun i s h=>p _ h.2.2.1) (fun i x r s nx h G=>?_) l 0 k.k ⟨fun _ h=>h,by omega,⟨P.nd,E.s⟩,by omega⟩;obtain⟨R,X,⟨Y,Z⟩,h5⟩:=h;simp only[length_cons]at X;have hr:=fun h t=>R h (mem_cons_of_mem x t);have f:=O x (R x (mem_cons_self ..));refine Ends.jpI (fun C:List aa=>((C.map gJ).Nodup/\∀h∈C,l8 h)/\C.length<=5000+(i+1)) (fun C A=>G _ ⟨hr,by omega,A.1,A.2⟩) fun W p=>?_;rw[V1 _ f.m,zf];refine Ends.bif (fun o=>⟨_,rfl,BE (by simpa using o)⟩) fun _=>?_;rw[BZ _ _ f.z,zf];refine Ends.jp (fun _=>Ends.jp (fun _=>?_) fun k2 u=>?_) fun k2 u=>?_
  .rw[Uh V,zf];refine Ends.bif (fun _=>⟨_,rfl,BE (by decide)⟩) fun _=>?_;rw[show AH x.g=some (((decide (x.g=1))||(decide (x.g=2)))||(decide (x.g=6)))from rfl,zf,KQ _ (lx (Sz.good D) _),zH];refine Ends.bif (fun _=>⟨_,rfl,BE (by decide)⟩) fun _=>?_;refine Ends.call (Yn s (by omega) c (nz c x)) fun r H=>?_;have hle:=length_filter_le (fun h=>!lM c (nz c x) h) s;rw[H,zj (by simp only[length_append,length_cons,length_nil];omega)];refine p _ ⟨⟨?_,fun h t=>?_⟩,?_⟩
   .rw[map_append,nodup_append];refine⟨List.Nodup.sublist (List.Sublist.map _ filter_sublist) Y,by simp,fun a ha b B e=>?_⟩;obtain⟨y,I,rfl⟩:=mem_map.1 ha;simp only[map_cons,map_nil,mem_singleton]at B;have S:=(mem_filter.1 I).2;have J:gJ y=gJ (nz c x):=e.trans B;unfold gJ at J;simp only[Prod.mk.injEq]at J;obtain⟨q1,K⟩:=J;unfold mZ at K;rw[aq.mk.injEq]at K
    have:lM c (nz c x) y=true:=by
     unfold lM jM;rw[decide_eq_true (show y.q=c from q1),decide_eq_true (show eG y.g=eG (nz c x).g by omega),decide_eq_true K.2];rfl
    rw[this]at S;cases S
   .rcases mem_append.1 t with t|t
    .exact Z h (mem_filter.1 t).1
    .rw[mem_singleton.1 t];exact uy c f.toIt f.v
   .simp only[length_append,length_cons,length_nil];omega
  .refine mh (fun _ _ _=>True) (fun j s _=>u _) (fun j y L s N _ d=>?_) k.k 0 () trivial;rw[B0,zH];exact Ends.bif (fun _=>⟨_,rfl,BE (by decide)⟩) fun _=>d () trivial
  .rw[zj (by omega)];refine mh (fun _ L _=>∀y∈L,y∈l) (fun j s _=>u _) (fun j y L s N h d=>?_) (l.take i) 0 () fun y I=>mem_of_mem_take I;rw[BZ _ _ (O y (h y (mem_cons_self ..))).z,zf,B0,zf];exact Ends.bif (fun _=>⟨_,rfl,BE (by decide)⟩) fun _=>d () fun z hz=>h z (mem_cons_of_mem _ hz)
structure Br(b:ay):Prop where
 i:∀x∈b.S,TO x
 n:b.S.length<=536870912
 c:∀c∈b.L,kF c
theorem HC:KO ⟨[]⟩:=⟨rfl,by simp⟩
theorem uq(g:Mg){M:aj}(P:Good M)(l:List ay)(Q:∀b∈l,Br b):Ends (MN M l) fun r=>Good r.1/\KO r.2:=by
 unfold MN;refine Ends.jpI (fun s:List ab×List ae×List ab×List ah×List aa=>Good ⟨s.1,s.2.1,s.2.2.1,s.2.2.2.1⟩/\KO ⟨s.2.2.2.2⟩) (fun s G=>?_) fun kk J=>?_
 .obtain⟨a,b,c,d,e⟩:=s;exact⟨_,rfl,G⟩
 rw[zj (by omega)];refine mh (fun _ r s=>(∀b∈r,b∈l)/\Good ⟨s.1,s.2.1,s.2.2.1,s.2.2.2.1⟩/\KO ⟨s.2.2.2.2⟩) (fun i s h=>?_) (fun i x r s nx h K=>?_) (l.take _) 0 (M.D,M.u,M.B,M.A,[]) ⟨fun b R=>mem_of_mem_take R,P,HC⟩
 .obtain⟨a,b,c,d,e⟩:=s;exact J _ h.2
 obtain⟨a,b,c,d,e⟩:=s;obtain⟨O,k,m⟩:=h;simp only at k m;have hx:=Q x (O x (mem_cons_self ..));have S:=fun y N=>O y (mem_cons_of_mem x N);refine Ends.jpI (fun s:List ab×List ae×List ab×List ah×List aa=>Good ⟨s.1,s.2.1,s.2.2.1,s.2.2.2.1⟩/\KO ⟨s.2.2.2.2⟩) (fun s G=>?_) fun k1 F=>?_
 .obtain⟨a,b,c,d,e⟩:=s;exact K _ ⟨S,G⟩
 refine Ends.jpI (fun s:Int×List ab×List ae×List ab×List ah×List aa×List ai×List aa×List am=>Good ⟨s.2.1,s.2.2.1,s.2.2.2.1,s.2.2.2.2.1⟩/\KO ⟨s.2.2.2.2.2.1⟩/\(s.1=0->(∀c∈s.2.2.2.2.2.2.1,kF c)/\KO ⟨s.2.2.2.2.2.2.2.1⟩)) (fun s G=>?_) fun T p=>?_
 .obtain⟨q,a,b,c,d,e,o,hd,ns⟩:=s;obtain⟨t,v,H⟩:=G;simp only at t v H;refine Ends.bif (fun U=>?_) fun _=>F _ ⟨t,v⟩;obtain⟨V,W⟩:=H (of_decide_eq_true U);rw[Y8 t o V,zf];exact Ends.bif (fun I=>F _ ⟨(YR t o (of_decide_eq_true I)).1,W⟩) fun _=>F _ ⟨t,v⟩
 have j:∀q:Int,q≠0->∀(A:List ab) (B:List ae) (C:List ab) (D:List ah) (E:List aa),Good ⟨A,B,C,D⟩->KO ⟨E⟩->Ends (T (q,A,B,C,D,E,[],[],[])) fun r=>Good r.1/\KO r.2:=fun q X A B C D E Y Z=>p _ ⟨Y,Z,fun h=>absurd h X⟩;refine Ends.bif (fun _=>?_) fun _=>Ends.bif (fun _=>?_) fun _=>Ends.bif (fun _=>?_) fun _=>Ends.bif (fun _=>?_) fun _=>Ends.bif (fun _=>?_) fun _=>j 10 (by decide) _ _ _ _ _ k m
 .exact Ends.call (sS g k m _ _ hx.i _) fun r f=>p _ ⟨k,m,fun h=>f h⟩
 .exact Ends.call (v6 k m _ _) fun r f=>p _ ⟨k,m,fun h=>f h⟩
 .refine mh (fun _ r s=>(∀c∈r,kF c)/\Good ⟨s.1,s.2.1,s.2.2.1,s.2.2.2⟩) (fun i s h=>?_) (fun i y r s nx2 h w=>?_) x.L 0 (a,b,c,d) ⟨hx.c,k⟩
  .obtain⟨a,b,c,d⟩:=s;exact j 10 (by decide) _ _ _ _ _ h.2 m
  .obtain⟨a,b,c,d⟩:=s;obtain⟨t,v⟩:=h;simp only at v;have H:=fun y N=>t y (mem_cons_of_mem _ N);dsimp only;rw[Y8 v [y] (fun z hz=>by rw[mem_singleton.1 hz];exact t y (mem_cons_self ..)),zf];exact Ends.bif (fun I=>w _ ⟨H,(YR v [y] (of_decide_eq_true I)).1⟩) fun _=>w _ ⟨H,v⟩
 .exact Ends.call (pp k m _ _ hx.i (by have:=hx.n;omega)) fun r f=>p _ ⟨k,m,fun h=>f h⟩
 .refine Ends.call (s3 k m _ _ hx.i hx.n) fun r f=>Ends.bif (fun I=>?_) fun _=>j 10 (by decide) _ _ _ _ _ k m;exact j 10 (by decide) _ _ _ _ _ k (f (of_decide_eq_true I))
theorem Wd{α Z:Type}(L:List α){f:Nat->α->Unit->(Unit->Option Z)->(Unit->Option Z)->Option Z}{K:Unit->Option Z}(b:∀i x nx c (h:i<L.length),L[i]=x->f i x () nx c=nx ()) :
  ∀(r:List α) (i:Nat),L.drop i=r->forL r i f () K=K ()
 |[],i,_=>rfl
 |x::r,i,a=>by
  have hi:i<L.length:=by
   rcases Nat.lt_or_ge i L.length with h|h
   .exact h
   .rw[drop_eq_nil_of_le h]at a;cases a
  rw[drop_eq_getElem_cons hi]at a;unfold forL;rw[b i x _ _ hi (List.cons.inj a).1];exact Wd L b r (i+1) (List.cons.inj a).2
theorem vS(l:List ar):Py l l=some true:=by unfold Py;rw[decide_eq_true rfl,eJ];refine Wd l (fun i x nx a hi e=>?_) l 0 rfl;subst e;rw[oF hi];simp
theorem J6(l:List eo):PD l l=some true:=by unfold PD;rw[decide_eq_true rfl,eJ];refine Wd l (fun i x nx a hi e=>?_) l 0 rfl;subst e;rw[oF hi];simp
theorem jU{n:Nat}{a:M1}{b:M2}{c:M3}{m4:M5}{L:Lw}(h:Sc n a b c m4 L)(hz:Sz L)(x:aa):Pt x a b c m4=some (rU L x):=rT h hz x
theorem rq{M:aj}(a:Good M){k:al}(b:KO k):Lj M k=some 0:=by
 unfold Lj;rw[Zl _ a.fit,(MD M).2 a,zf,kG _ b.s,zf,b.e];rfl
theorem pg{M:aj}(a:Good M){x:aa}(hx:l8 x):∃r,Ng M x=some r/\MY M x=some r:=by
 have c:∀h∈([x]:List aa),l8 h:=fun h e=>by rw[mem_singleton.1 e];exact hx
 obtain⟨m1,m2,m3,m4,f,b⟩:=YP a;obtain⟨k,l,m,g,i⟩:=EG a;unfold Ng MY;rw[Zl _ a.fit,Ln _ a.fit,(MD M).2 a,zf,zf,kG ⟨[x]⟩ c,B3 ⟨[x]⟩ c];simp only[zf,w7,f,g,jU b (Sz.good a),Un i a];by_cases d:wZ ⟨[x]⟩=0
 .rw[d];exact⟨_,rfl,rfl⟩
 .have j:fa 0 (wZ ⟨[x]⟩)=wZ ⟨[x]⟩:=rfl;rw[j,decide_eq_false d];exact⟨_,rfl,rfl⟩
def Hg(k:Int):Bool:=((decide (k=1))||(decide (k=2)))||(decide (k=6))
def pX(L:Lw)(h:aa):Bool:=(Hg h.g&&!decide (rU L h=1))||(decide (h.g=3)&&decide (rU L h=3))
def vP(L:Lw)(l:List aa):List ar:=(l.filter (pX L)).map fun h=>⟨h.q,h.a,h.g,rU L h⟩
theorem p5{M:aj}(b:Good M){k:al}(d:KO k):Nf M k=some (vP (oL M) k.k,0)/\L5 M k=some (vP (oL M) k.k):=by
 have r:=(xM d.e).n;obtain⟨m1,m2,m3,m4,f,c⟩:=YP b;obtain⟨s,t,u,j,l⟩:=EG b;constructor
 .unfold Nf;rw[rq b d,zf,decide_eq_true rfl,Bool.not_true,cond_false,f,zf,eJ]
  rw[AP (pX (oL M)) (fun h=>(⟨h.q,h.a,h.g,rU (oL M) h⟩:ar)) 5001 (fun i x o nx m p=>by
   rw[jU c (Sz.good b),zf,show Uu x.g=some (Hg x.g)from rfl,zf,zj (by simp only[length_append,length_cons,length_nil];omega)];rfl) k.k 0 [] (by simp only[length_nil];omega)]
  rfl
 .unfold L5;rw[j,zf,eJ]
  rw[AP (pX (oL M)) (fun h=>(⟨h.q,h.a,h.g,rU (oL M) h⟩:ar)) 5001 (fun i x o nx m p=>by
   rw[Un l b,zf,show AH x.g=some (Hg x.g)from rfl,zf,zj (by simp only[length_append,length_cons,length_nil];omega)];rfl) k.k 0 [] (by simp only[length_nil];omega)]
  rfl
def hZ(H:List aa)(p:eo):Bool:=H.any fun h=>decide (eG h.g=0)&&decide (h.a=p)
def iI(H:List aa)(d:eo)(f:ae):Bool:=((decide (d=[])||fI f.a d)&&!hZ H f.a)&&!fI f.a ([115,116,97,103,101]:eo)
theorem vD:∀(H:List aa) (i:Nat) (m:List (eo×Bool)) {Z:Type} (K:List (eo×Bool)->Option Z) (P:Z->Prop),m.length+H.length<=1073741824 ->
  (∀k,(∀p,(zS k p).getD false=((zS m p).getD false||hZ H p))->Ends (K k) P) ->
  Ends (forL H i (fun n c (b:List (eo×Bool)) d o =>
   call (A5 c.g) fun l =>
   bif decide (l=1)then
    ey ((eD b c.a true).length<=274877906944) <|
    d (eD b c.a true)
   else
   d b) m K) P
 |[],i,m,Z,K,P,_,h=>h m fun p=>by simp[hZ]
 |x::H,i,m,Z,K,P,q,h=>by
  simp only[length_cons]at q;unfold forL;show Ends (call (A5 x.g) _) P;rw[ug,zf];refine Ends.bif (fun f=>?_) fun f=>?_
  .have f:eG x.g=0:=by have:=of_decide_eq_true f;omega
   have r:=Aq m x.a true;rw[zj (by omega)];refine vD H (i+1) _ K P (by omega) fun k j=>h k fun p=>?_;rw[j,tT];unfold hZ;rw[any_cons,decide_eq_true f,Bool.true_and];by_cases e:x.a=p
   .rw[if_pos e,decide_eq_true e];simp
   .rw[if_neg e,decide_eq_false e,Bool.false_or]
  .have f:¬ eG x.g=0:=by have:=of_decide_eq_false f;omega
   refine vD H (i+1) _ K P (by omega) fun k j=>h k fun p=>?_;rw[j];unfold hZ;rw[any_cons,decide_eq_false f,Bool.false_and,Bool.false_or]
theorem jW(p d:eo)(h:d.length<274877906944):A3 p d=some (fI p d):=by
 unfold A3 z6 Px fI;have a:(d++[47]).length=d.length+1:=by simp
 rw[zj (by rw[a];omega),zj (by intro h;simp only[decide_eq_true_eq]at h;omega)];simp only[zf,a];congr 1;by_cases b:d.length+1<=p.length
 .rw[decide_eq_true (by omega:((d.length+1:Nat):Int)<=(p.length:Int)),Bool.true_and]
 .rw[decide_eq_false (by omega),Bool.false_and,eq_comm,decide_eq_false_iff_not];intro e;have:=congrArg List.length e;simp only[length_take,a]at this;omega
def pe(H:List aa)(d:eo)(l:List ae):List eo:=(l.filter (iI H d)).map (·.a)
theorem pm{M:aj}(b:Good M)(k:al)(d:eo)(j:d.length<=1073741824):Mt M k d=some (pe k.k d M.u):=by
 have l:=b.c2;unfold Mt;rw[eJ];rw[AP (iI k.k d) (fun f:ae=>f.a) 2001 (fun i f o nx m n=>by
  have e:Vh k.k f=tG (fun h=>O8 h f) k.k:=rfl;have c:zV k.k f=some (hZ k.k f.a):=by
   unfold zV;rw[e,xE (p:=fun h=>decide (eG h.g=0)&&decide (h.a=f.a)) k.k (fun h _=>by unfold O8;rw[tm];rfl),zf,yO];rfl
  rw[c,zf];unfold B1;rw[La _ _ (by decide),zf,zH,La _ _ (by omega),zH,zj (by simp only[length_append,length_cons,length_nil];omega)];unfold iI;cases hZ k.k f.a <;> cases fI f.a [115,116,97,103,101] <;> cases decide (d=[]) <;> cases fI f.a d <;> rfl) M.u 0 [] (by simp only[length_nil];omega)]
 rfl
theorem rN{M:aj}(s:Good M){k:al}(t:KO k)(d:eo)(y:d.length<=1073741824):M7 M k d=some (bif !decide (d=[])&&!fE d then([],5)else(pe k.k d M.u,0)):=by
 have A:=s.c2;have B:=(xM t.e).n;unfold M7;rw[rq s t,zf,decide_eq_true rfl,Bool.not_true,cond_false,O5 d (by omega),zH];have x:((!decide (d=[]))&&!(bif !decide (d=[])then fE d else false))=(!decide (d=[])&&!fE d):=by cases decide (d=[]) <;> rfl
 rw[x];cases (!decide (d=[])&&!fE d)with
 |true=>rfl
 |false =>
  simp only[cond_false,eJ];have p:=vD k.k 0 [] (fun l:List (eo×Bool)=>forL M.u 0 (fun v (c:ae) (b:List eo) g w =>
   callG (!(decide (d=[]))) (A3 c.a d) false fun h =>
   fc (zS l c.a) fun j =>
   callG (((decide (d=[]))||h)&&(!(j.getD false))) (A3 c.a ([115,116,97,103,101]:eo)) false fun m =>
   bif ((((decide (d=[]))||h)&&(!(j.getD false)))&&(!m))then
    ey ((b++[c.a]).length<=274877906944) <|
    g (b++[c.a])
   else
   g b) [] (fun b=>some (b,(0:Int)))) (fun z=>z=(pe k.k d M.u,0)) (by simp only[length_nil];omega) fun C q=>⟨_,(by
    rw[AP (iI k.k d) (fun f:ae=>f.a) 2001 (fun i f o nx D E=>by
     rw[jW _ _ (by omega),jW _ _ (by decide),zH];simp only[fc,q,zH];rw[zj (by simp only[length_append,length_cons,length_nil];omega)];unfold iI;have r:(zS ([]:List (eo×Bool)) f.a).getD false=false:=rfl;rw[r];cases hZ k.k f.a <;> cases fI f.a [115,116,97,103,101] <;> cases decide (d=[]) <;> cases fI f.a d <;> rfl) M.u 0 [] (by simp only[length_nil];omega)];rfl),rfl⟩
  obtain⟨z,e,rfl⟩:=p;exact e
theorem HB(g:Mg)(m:aj)(v:Bx m)(l:List ay)(w:∀b∈l,Br b)(x:aa)(hx:l8 x)(d:eo)(u:d.length<=1073741824):LD m l x d=some true:=by
 suffices h:Ends (LD m l x d) fun z=>z=true by obtain⟨z,e,rfl⟩:=h;exact e
 unfold LD;rw[sk,zf];refine Ends.call (vL m v) fun H j=>?_;refine Ends.call (uq g j.good l w) fun r y=>?_;obtain⟨c,f⟩:=y;have I:=(xM f.e).n;refine Ends.jp (fun _=>?_) fun J k=>?_
 .obtain⟨A,B⟩:=p5 c f;rw[A,zf,B,zH,decide_eq_true rfl];simp only[Bool.not_true,Bool.not_false,cond_true,AQ,vS,zf,Bool.or_self,cond_false];rw[rN c f d u,zf,AW d (by omega),zH,pm c r.2 d u];have C:((!decide (d=[]))&&!(bif !decide (d=[])then fE d else false))=(!decide (d=[])&&!fE d):=by cases decide (d=[]) <;> rfl
  rw[C];cases (!decide (d=[])&&!fE d)with
  |true=>exact⟨_,rfl,rfl⟩
  |false =>
   simp only[cond_false];simp only[decide_true,AQ,zf,J6];exact⟨_,rfl,rfl⟩
 .have o:zI r.2.k=some r.2.k:=by
   unfold zI;refine MZ ⟨false,by simp⟩ fun b D=>?_;cases b with
   |true=>rw[D rfl];rfl
   |false=>rw[cond_false,zj (by simp only[nil_append];omega)];rfl
  rw[o,zf,zj (by simp only[length_append,length_cons,length_nil];omega)];obtain⟨z,hz,E⟩:=k ();refine⟨z,?_,E⟩;refine VC (r.2.k++[x]).length (fun _ _=>True) (fun _ _=>some z) (fun s _=>hz) (fun i s nx hi _ p=>?_) _ 0 () rfl trivial;have a:(r.2.k++[x]).getD i (aa.mk [] 0 [] [] [])∈r.2.k++[x]:=Uc _ _ _ hi;have t:l8 ((r.2.k++[x]).getD i (aa.mk [] 0 [] [] [])):=by
   rcases mem_append.1 a with h|h
   .exact f.s _ h
   .rw[mem_singleton.1 h];exact hx
  obtain⟨q,F,G⟩:=pg c t;rw[F,zf,G,zf,decide_eq_true rfl,decide_eq_true rfl];exact p () trivial
theorem Rn:Mg:=by
 intro a b c d f g;by_cases h:mj a=false/\mj b=false/\mj c=false
 .rw[zps a b c (uC h.1) (uC h.2.1) (uC h.2.2)];exact⟨_,rfl,trivial⟩
 .unfold EI;rw[ZE a b d f,zf,ZE a c d g,zf,w7,zf]
  have:∃e:Int,fa (bif mj a||mj b then(4:Int)else 0) (bif mj a||mj c then 4 else 0)=4:=by
   refine⟨0,?_⟩;cases i:mj a <;> cases j:mj b <;> cases k:mj c <;> simp_all <;> rfl
  obtain⟨_,e⟩:=this;rw[e];exact⟨_,rfl,trivial⟩
theorem yL(m:aj)(a:Bx m)(l:List ay)(c:∀b∈l,Br b)(x:aa)(hx:l8 x)(d:eo)(e:d.length<=1073741824):LD m l x d=some true:=HB Rn m a l c x hx d e
end Go.Md

