/- Plain lemmas on the models: the law's model answers true (second part). -/
import Derived.Test.YtpcihjdidhpbbaaGreatDoorKpPl
set_option linter.unusedSimpArgs false
set_option linter.unusedVariables false
set_option linter.unusedSectionVars false
open List
namespace Go.Md
open Go.Vc
theorem wH(x y:List ev)(i j p q:Nat)(l:List (Nat×Nat))(h:gr x y i j=(p,q)::l):∃d,∃h:d<x.length,p=i+d/\fo x[d] y<y.length/\q=j+fo x[d] y/\l=gr (x.drop (d+1)) (y.drop (fo x[d] y+1)) (p+1) (q+1):=rR x y i j p q l h
theorem Fg(x y:List ev)(hx:x.length<=100000)(U:y.length<=100000)(N:Nat)(G:1099511627776<=N)(a:List Int)(P:a=iB ((gr x y 0 0).map (·.1))) :
  forC a.length 0 (fun e s l B =>
     match s with
     |(h,b) =>
      jp (S:=Int×List ao) (fun s=>match s with
       |(r,m) =>
        l (r,m)) fun u =>
      jp (S:=Int) (fun g =>
       eA ((b++[(ao.mk (a.getD e 0) g)]).length<=274877906944) <|
       u (IntKind.i64.wrap (g+1),b++[(ao.mk (a.getD e 0) g)])) fun v =>
      loopN N (fun c n w =>
       eL y c fun z =>
       eL x (a.getD e 0) fun A =>
       bif !decide (z=A)then
        n (IntKind.i64.wrap (c+1))
       else
       w c) h (fun c =>
       v c)) (0,[]) (fun s=>match s with
     |(h,b)=>some b)=some (jw (gr x y 0 0)):=by
 have V:=qr x y 0 0;have C:a.length=(gr x y 0 0).length:=by rw[P];simp[iB]
 rw[C];have D:=oc (S:=Int×List ao) (Z:=List ao) (k:=fun s=>match s with
     |(h,b)=>some b) (f:=fun e s l B =>
     match s with
     |(h,b) =>
      jp (S:=Int×List ao) (fun s=>match s with
       |(r,m) =>
        l (r,m)) fun u =>
      jp (S:=Int) (fun g =>
       eA ((b++[(ao.mk (a.getD e 0) g)]).length<=274877906944) <|
       u (IntKind.i64.wrap (g+1),b++[(ao.mk (a.getD e 0) g)])) fun v =>
      loopN N (fun c n w =>
       eL y c fun z =>
       eL x (a.getD e 0) fun A =>
       bif !decide (z=A)then
        n (IntKind.i64.wrap (c+1))
       else
       w c) h (fun c =>
       v c)) (gr x y 0 0).length (fun t s=>∃i j:Nat,s.1=j/\(gr x y 0 0).drop t=gr (x.drop i) (y.drop j) i j/\s.2.length<=t/\t<=(gr x y 0 0).length) (fun t s=>some (s.2++jw ((gr x y 0 0).drop t))) ?_ ?_ (gr x y 0 0).length 0 (0,[]) (by omega) ⟨0,0,rfl,rfl,by simp,by omega⟩
 .simpa using D
 .rintro⟨W,o⟩ _;simp[jw]
 .rintro t ⟨W,o⟩ nx Q ⟨i,j,rfl,X,H,_⟩ I;dsimp only at H;have J:=drop_eq_getElem_cons Q;rcases E:(gr x y 0 0)[t]with⟨p,q⟩;rw[E]at J;obtain⟨d,Y,R,K,L,T⟩:=wH (x.drop i) (y.drop j) i j p q _ (X.symm.trans J);have M:i+d<x.length:=by rw[length_drop]at Y;omega
  have O:(x.drop i)[d]=x[i+d]:=by simp
  have F:a.getD t 0=((i+d:Nat):Int):=by rw[P];simp only[iB,map_map];rw[getD_eq_getElem?_getD,getElem?_map,getElem?_eq_getElem Q,E];simp[R]
  show jp _ _=_;rw[eJ,eJ];simp only[F];rw[O]at K L T;refine(vr x y (i+d) M U N G _ j K).trans ?_;have hyl:j+fo x[i+d] (y.drop j)<y.length:=by rw[length_drop]at K;omega
  try dsimp only
  rw[zg (by simp;omega),fw _ (by omega)];refine(I (_,_) ⟨p+1,q+1,by rw[L],?_,by simp;omega,by omega⟩).trans ?_
  .rw[T,drop_drop,drop_drop];congr 2 <;> omega
  .rw[J];simp[jw,R,L]
theorem p9(x y:List ev)(hx:x.length<=100000)(I:y.length<=100000)(N:Nat)(J:1099511627776<=N)(K:List Int->Option (List ao)) :
   loopN N (fun s g u =>
    match s with
    |(d,b,c) =>
     bif decide (0<b)then
      call (Dd c) fun l =>
      eA ((l++[d]).length<=274877906944) <|
      call (Cm x y (l++[d]) (IntKind.i64.wrap (b-1)) (Gt (Ft x y 0 0) (x.length+1) (y.length+1))) fun v =>
      bif v then
       eA ((c++[d]).length<=274877906944) <|
       g (IntKind.i64.wrap (d+1),IntKind.i64.wrap (b-1),c++[d])
      else
      g (IntKind.i64.wrap (d+1),b,c)
     else
     u (d,b,c)) (0,(((Gt (Ft x y 0 0) (x.length+1) (y.length+1)).getD 0 []).getD 0 0),[]) (fun s=>match s with
    |(d,b,c)=>K c)=K (iB ((gr x y 0 0).map (·.1))):=by
 rw[i7 _ (by omega) (by omega),xN];refine pq (S:=Int×Int×List Int) (fun s=>∃(i k:Nat) (f:List (Nat×Nat)),s.1=i/\i<=x.length/\k<=y.length/\s.2.1=((lc (x.drop i) (y.drop k):Nat):Int)/\s.2.2=iB (f.map (·.1))/\gr x y 0 0=f++gr (x.drop i) (y.drop k) i k/\ru y ((f.map (·.1)).map fun p=>x.getD p []) 0=some k/\(∀p∈f,p.1<x.length)/\f.length<=i) (fun s=>x.length-s.1.toNat) (fun _=>K (iB ((gr x y 0 0).map (·.1)))) ?_ N (0,((lc (x.drop 0) (y.drop 0):Nat):Int),[]) ⟨0,0,[],rfl,by omega,by omega,rfl,rfl,rfl,rfl,by simp,by simp⟩ (by simp only;omega);rintro⟨R,left,o⟩ nx ⟨i,k,f,rfl,hi,H,rfl,rfl,B,w,n,L⟩ z;dsimp only;by_cases h:0<lc (x.drop i) (y.drop k)
 .rw[decide_eq_true (by omega),cond_true];have q:i<x.length:=by apply Nat.lt_of_not_le;intro m;rw[drop_eq_nil_of_le m,lE]at h;omega
  have M:(iB (f.map (·.1))).length=f.length:=by simp[iB]
  have D:iB (f.map (·.1))++[(i:Int)]=iB (f.map (·.1)++[i]):=by simp[iB]
  have E:=rJ (x.drop i) (y.drop k);rw[length_drop]at E;rw[tG _ (by omega),zf,zg (by simp;omega),D,gj (by omega) (by omega),fw i (by omega)];rw[AU x y hx I (f.map (·.1)) i (fun p r=>by
   obtain⟨a,O,rfl⟩:=mem_map.1 r;exact n a O) q (by simp;omega)]
  have F:x.getD i []=x[i]:=by simp[getD_eq_getElem?_getD,q]
  have t:ru y ((f.map (·.1)++[i]).map fun p=>x.getD p []) 0=if fo x[i] (y.drop k)<(y.drop k).length then some (k+fo x[i] (y.drop k)+1)else none:=by rw[map_append,map_cons,map_nil,vD,w,F];rfl
  rw[t];have A:=drop_eq_getElem_cons q;have e:=nY x[i] (x.drop (i+1)) (y.drop k) i k;rw[<-A]at e;have j:=AG x[i] (x.drop (i+1)) (y.drop k);rw[<-A]at j;change ¬ (fo x[i] (y.drop k)<(y.drop k).length/\1+lc (x.drop (i+1)) ((y.drop k).drop (fo x[i] (y.drop k)+1))=lc (x.drop i) (y.drop k))->_ at j;rw[drop_drop]at e j;by_cases m:fo x[i] (y.drop k)<(y.drop k).length
  .have P:k+fo x[i] (y.drop k)<y.length:=by rw[length_drop]at m;omega
   rw[if_pos m,zf];have C:=AF x[i] (x.drop (i+1)) (y.drop k) m;rw[<-A]at C;change 1+lc (x.drop (i+1)) ((y.drop k).drop (fo x[i] (y.drop k)+1))=lc (x.drop i) (y.drop k)↔lc (x.drop i) (y.drop k)<=1+lc (x.drop (i+1)) ((y.drop k).drop (fo x[i] (y.drop k)+1))at C;rw[drop_drop]at C;have Q:k+(fo x[i] (y.drop k)+1)=k+fo x[i] (y.drop k)+1:=by omega
   rw[Q]at e j C;by_cases G:1+lc (x.drop (i+1)) (y.drop (k+fo x[i] (y.drop k)+1))=lc (x.drop i) (y.drop k)
   .rw[decide_eq_true (by omega),cond_true,zg (by simp[iB];omega)];rw[if_pos ⟨m,G⟩]at e;refine z (_,_,_) ⟨i+1,k+fo x[i] (y.drop k)+1,f++[(i,k+fo x[i] (y.drop k))],rfl,by omega,by omega,by simp only;omega,by simp[iB],by rw[B,e];simp,?_,?_,by simp;omega⟩ (by simp only[Int.toNat_natCast];omega)
    .rw[map_append,map_cons,map_nil,t,if_pos m]
    .intro p r;rcases mem_append.1 r with r|r
     .exact n p r
     .simp at r;subst r;exact q
   .rw[decide_eq_false (by omega),cond_false];rw[if_neg (fun h=>G h.2)]at e;have:=j fun h=>G h.2;exact z (_,_,_) ⟨i+1,k,f,rfl,by omega,H,by simp only[this],rfl,by rw[B,e],w,n,by omega⟩ (by simp only[Int.toNat_natCast];omega)
  .rw[if_neg m,zf,cond_false];rw[if_neg (fun h=>m h.1)]at e;have:=j fun h=>m h.1;exact z (_,_,_) ⟨i+1,k,f,rfl,by omega,H,by simp only[this],rfl,by rw[B,e],w,n,by omega⟩ (by simp only[Int.toNat_natCast];omega)
 .rw[decide_eq_false (by omega),cond_false];rw[rP (x.drop i) (y.drop k) i k (by omega),append_nil]at B;rw[B]
theorem qE(x y:List ev)(hx:x.length<=100000)(hy:y.length<=100000):(
 eA (0<=IntKind.i64.wrap ((x.length:Int)+1)/\IntKind.i64.wrap ((x.length:Int)+1)<=IntKind.i64.wrap ((x.length:Int)+1)/\IntKind.i64.wrap ((x.length:Int)+1)<=274877906944) <|
 fK (List.replicate ((IntKind.i64.wrap ((x.length:Int)+1)).toNat) []) fun v_4 =>
 jp (S:=List (List Int)) (fun O =>
  jp (S:=List (List Int)) (fun k =>
   jp (S:=List Int) (fun l =>
    jp (S:=List ao) (fun z =>
     some z) fun P =>
    forC l.length 0 (fun o s A k_896 =>
     match s with
     |(r,m) =>
      jp (S:=Int×List ao) (fun s=>match s with
       |(Q,B) =>
        A (Q,B)) fun R =>
      jp (S:=Int) (fun p =>
       eA ((m++[(ao.mk (l.getD o 0) p)]).length<=274877906944) <|
       R (IntKind.i64.wrap (p+1),m++[(ao.mk (l.getD o 0) p)])) fun T =>
      loopN ff (fun n C U =>
       eL y n fun V =>
       eL x (l.getD o 0) fun W =>
       bif !decide (V=W)then
        C (IntKind.i64.wrap (n+1))
       else
       U n) r (fun n =>
       T n)) (0,[]) (fun s=>match s with
     |(r,m) =>
      P m)) fun X =>
   eA (0<=0/\0<(k.length:Int)) <|
   eA (0<=0/\0<((k.getD 0 []).length:Int)) <|
   loopN ff (fun s q Y =>
    match s with
    |(h,f,g) =>
     bif decide (0<f)then
      call (Dd g) fun t =>
      eA ((t++[h]).length<=274877906944) <|
      call (Cm x y (t++[h]) (IntKind.i64.wrap (f-1)) k) fun Z =>
      bif Z then
       eA ((g++[h]).length<=274877906944) <|
       q (IntKind.i64.wrap (h+1),IntKind.i64.wrap (f-1),g++[h])
      else
      q (IntKind.i64.wrap (h+1),f,g)
     else
     Y (h,f,g)) (0,((k.getD 0 []).getD 0 0),[]) (fun s=>match s with
    |(h,f,g) =>
     X g)) fun k_649 =>
  loopN ff (fun s nx376 D =>
   match s with
   |(a,j) =>
    bif decide (0<=a)then
     jp (S:=List (List Int)) (fun u =>
      nx376 (IntKind.i64.wrap (a-1),u)) fun E =>
     loopN ff (fun s v F =>
      match s with
      |(b,c) =>
       bif decide (0<=b)then
        eA (0<=a/\a<(c.length:Int)) <|
        eA (0<=IntKind.i64.wrap (a+1)/\IntKind.i64.wrap (a+1)<(c.length:Int)) <|
        eA (0<=b/\b<((c.getD ((IntKind.i64.wrap (a+1)).toNat) []).length:Int)) <|
        eA (0<=a/\a<(c.length:Int)) <|
        eA (0<=IntKind.i64.wrap (b+1)/\IntKind.i64.wrap (b+1)<((c.getD a.toNat []).length:Int)) <|
        eA (0<=b/\b<((c.getD a.toNat []).length:Int)) <|
        fK (List.set c a.toNat (List.set (c.getD a.toNat []) b.toNat (max ((c.getD ((IntKind.i64.wrap (a+1)).toNat) []).getD b.toNat 0) ((c.getD a.toNat []).getD ((IntKind.i64.wrap (b+1)).toNat) 0)))) fun d =>
        eL x a fun G =>
        eL y b fun H =>
        bif decide (G=H)then
         eA (0<=a/\a<(d.length:Int)) <|
         eA (0<=a/\a<(d.length:Int)) <|
         eA (0<=b/\b<((d.getD a.toNat []).length:Int)) <|
         eA (0<=IntKind.i64.wrap (a+1)/\IntKind.i64.wrap (a+1)<(d.length:Int)) <|
         eA (0<=IntKind.i64.wrap (b+1)/\IntKind.i64.wrap (b+1)<((d.getD ((IntKind.i64.wrap (a+1)).toNat) []).length:Int)) <|
         eA (0<=b/\b<((d.getD a.toNat []).length:Int)) <|
         fK (List.set d a.toNat (List.set (d.getD a.toNat []) b.toNat (max ((d.getD a.toNat []).getD b.toNat 0) (IntKind.i64.wrap (1+((d.getD ((IntKind.i64.wrap (a+1)).toNat) []).getD ((IntKind.i64.wrap (b+1)).toNat) 0)))))) fun I =>
         v (IntKind.i64.wrap (b-1),I)
        else
        v (IntKind.i64.wrap (b-1),d)
       else
       F (b,c)) (IntKind.i64.wrap ((y.length:Int)-1),j) (fun s=>match s with
      |(b,c) =>
       E c)
    else
    D (a,j)) (IntKind.i64.wrap ((x.length:Int)-1),O) (fun s=>match s with
   |(a,j) =>
    k_649 j)) fun k_30 =>
 loopN ff (fun s nx597 J =>
  match s with
  |(e,i) =>
   bif decide (e<(v_4.length:Int))then
    eA (0<=IntKind.i64.wrap ((y.length:Int)+1)/\IntKind.i64.wrap ((y.length:Int)+1)<=IntKind.i64.wrap ((y.length:Int)+1)/\IntKind.i64.wrap ((y.length:Int)+1)<=274877906944) <|
    eA (0<=e/\e<(i.length:Int)) <|
    fK (List.set i e.toNat (List.replicate ((IntKind.i64.wrap ((y.length:Int)+1)).toNat) 0)) fun L =>
    nx597 (IntKind.i64.wrap (e+1),L)
   else
   J (e,i)) (0,v_4) (fun s=>match s with
  |(e,i) =>
   k_30 i))=some (jw (gr x y 0 0)):=by
 obtain⟨N,hN⟩:∃N,ff=N:=⟨_,rfl⟩;have M:1099511627776<=N:=hN ▸ qM;rw[hN];clear hN;rw[zg (by rw[fw x.length (by omega)];omega)];rw[AC,eJ];generalize hK:(fun(w:List (List Int))=>(jp _ _:Option (List ao)))=K;rw[u2 x y hx hy N M K];subst hK;show jp _ _=_;rw[eJ];generalize hK:(fun(w:List (List Int))=>(jp _ _:Option (List ao)))=K;rw[yX x y hx hy N M K];subst hK;show jp _ _=_;rw[eJ,zg (by rw[FJ];omega),zg (by rw[CA _ (by omega)];omega)];generalize hK:(fun(w:List Int)=>(jp _ _:Option (List ao)))=K;rw[p9 x y hx hy N M K];subst hK;show jp _ _=_;rw[eJ];exact Fg x y hx hy N M _ rfl
theorem pd(x y:List ev)(hx:x.length<=100000)(a:y.length<=100000):G4 x y=some (jw (gr x y 0 0)):=qE x y hx a
section
variable {α:Type} [DecidableEq α]
abbrev Pr:=Nat×Nat
structure Rise(x y:List α)(P:List Pr):Prop where
 mem:∀p∈P,∃(h:p.1<x.length) (h':p.2<y.length),x[p.1]=y[p.2]
 up:P.Pairwise fun a b=>a.1<b.1/\a.2<b.2
theorem Up.rise{x y:List α}:∀{l:List Pr} {i j:Nat},Up x y i j l->Rise x y l/\∀p∈l,i<=p.1/\j<=p.2
 |[],_,_,_=>⟨⟨by simp,.nil⟩,by simp⟩
 |(p,q)::l,i,j,h=>by
  cases h with
  |cons e f g k m n =>
   obtain⟨⟨a,b⟩,c⟩:=n.rise;refine⟨⟨fun r d=>?_,.cons (fun r d=>?_) b⟩,fun r d=>?_⟩
   .rcases mem_cons.1 d with rfl|d
    .exact⟨g,k,m⟩
    .exact a r d
   .have:=c r d;simp only;omega
   .rcases mem_cons.1 d with rfl|d
    .exact⟨e,f⟩
    .have:=c r d;omega
theorem rQ(x y:List α):Rise x y (gr x y 0 0):=(wG x y x y 0 0 rfl rfl).rise.1
def rH(P:List Pr)(t:Nat):Option Nat:=(P.find? fun p=>decide (p.1=t)).map (·.2)
theorem Hu(p:Pr)(P:List Pr)(t:Nat):rH (p::P) t=if p.1=t then some p.2 else rH P t:=by
 unfold rH;by_cases h:p.1=t
 .rw[find?_cons_of_pos (by simpa using h),if_pos h];rfl
 .rw[find?_cons_of_neg (by simpa using h),if_neg h]
theorem lA:∀{P:List Pr} {t k:Nat},rH P t=some k->(t,k)∈P
 |[],t,k,h=>by simp[rH]at h
 |p::P,t,k,h=>by
  rw[Hu]at h;split at h
  .rename_i e;cases h;subst e;simp
  .exact mem_cons_of_mem _ (lA h)
theorem Rise.lt{x y:List α}{P:List Pr}(h:Rise x y P){p q:Pr}(d:p∈P)(f:q∈P)(i:p.1<q.1):p.2<q.2:=by
 have:=h.up;clear h;induction P with
 |nil=>cases d
 |cons r P j =>
  cases this with
  |cons g k =>
   rcases mem_cons.1 d with e|b
   .rcases mem_cons.1 f with c|a
    .subst e;subst c;omega
    .subst e;exact(g q a).2
   .rcases mem_cons.1 f with c|a
    .subst c;have:=g p b;omega
    .exact j b a k
def pX{S:Type}(a:List Pr)(step:Nat->Nat->Nat->S->S):List Pr->S->S
 |[],s=>s
 |p::l,s=>match rH a p.1 with
  |none=>pX a step l s
  |some k=>pX a step l (step p.1 p.2 k s)
theorem OJ{S:Type}{P2:List Pr}{step:Nat->Nat->Nat->S->S}(I:Nat->S->Prop):∀(l:List Pr) (t:Nat) (s:S),I t s->l.Pairwise (fun a b=>a.1<b.1/\a.2<b.2)->(∀p∈l,t<=p.1) ->
  (∀p∈l,∀k t s,rH P2 p.1=some k->t<=p.1->I t s->I (p.1+1) (step p.1 p.2 k s))->∃g,I g (pX P2 step l s)
 |[],t,s,h,_,_,_=>⟨t,h⟩
 |p::l,t,s,h,i,e,d=>by
  unfold pX;cases i with
  |cons j f =>
   cases m:rH P2 p.1 with
   |none=>exact OJ I l t s h f (fun q c=>e q (by simp[c])) fun q c=>d q (by simp[c])
   |some k=>exact OJ I l (p.1+1) _ (d p (by simp) k t s m (e p (by simp)) h) f (fun q c=>by have:=(j q c).1;omega) fun q c=>d q (by simp[c])
end
def AL(s:ev):Bool:=(decide (((([10]:ev).length:Nat):Int)<=(s.length:Int)))&&(decide ((List.drop ((IntKind.i64.wrap ((s.length:Int)-((([10]:ev).length:Nat):Int))).toNat) s)=([10]:ev)))
theorem LA(s:ev)(c:s.length<=1000000):GN s ([10]:ev)=some (AL s):=by
 unfold GN N4;rw[zg,zf]
 .rfl
 .intro h;have a:=of_decide_eq_true h;have b:((([10]:ev).length:Nat):Int)=1:=rfl;rw[b]at a|-;rw[gj (by omega) (by omega)];omega
def Fl(s:ev):ev:=bif ((!decide (s=[]))&&(!(bif (!decide (s=[]))then AL s else false)))then s++([10]:ev)else s
theorem Mu(s:ev):(Fl s).length<=s.length+1:=by
 unfold Fl;cases ((!decide (s=[]))&&(!(bif (!decide (s=[]))then AL s else false)))
 .simp only[cond_false];omega
 .simp
theorem qz(s:ev)(b:s.length<=1000000):(callG (!decide (s=[])) (GN s ([10]:ev)) false fun a =>
 bif ((!decide (s=[]))&&(!a))then
  eA ((s++([10]:ev)).length<=274877906944) <|
  some (s++([10]:ev))
 else
 some s)=some (Fl s):=by
 rw[LA s b,gU];unfold Fl;cases ((!decide (s=[]))&&(!(bif (!decide (s=[]))then AL s else false)))
 .rfl
 .simp only[cond_true];rw[zg (by simp;omega)]
theorem Rj(s:ev)(a:s.length<=1000000):II s=some (Fl s):=qz s a
def Q5(a d:ev):ev:=((((([60,60,60,60,60,60,60,10]:ev)++Fl a)++([61,61,61,61,61,61,61,10]:ev))++Fl d)++([62,62,62,62,62,62,62,10]:ev))
theorem Fu(a d:ev):(Q5 a d).length<=a.length+d.length+26:=by have:=Mu a;have:=Mu d;simp only[Q5,length_append,length_cons,length_nil];omega
def blk(b a d:ev):ev×Bool:=bif decide (a=b)then(d,false)else bif (decide (d=b)||decide (a=d))then(a,false)else(Q5 a d,true)
theorem mg(b a d:ev):(blk b a d).1.length<=a.length+d.length+26:=by
 have:=Fu a d;unfold blk;cases decide (a=b)
 .cases (decide (d=b)||decide (a=d))
  .simpa using this
  .simp only[cond_false,cond_true];omega
 .simp only[cond_true];omega
def sl(l:List ev)(i j:Nat):ev:=((l.drop i).take (j-i)).flatten
theorem od:∀l:List ev,l.flatten.length=(l.map List.length).sum
 |[]=>rfl
 |a::l=>by simp[od l]
theorem Cy(l:List ev)(i j:Nat):(sl l i j).length<=l.flatten.length:=by
 unfold sl;have h:(l.drop i).flatten.length<=l.flatten.length:=by
  conv=>rhs;rw[<-take_append_drop i l,flatten_append,length_append]
  omega
 have a:((l.drop i).take (j-i)).flatten.length<=(l.drop i).flatten.length:=by
  conv=>rhs;rw[<-take_append_drop (j-i) (l.drop i),flatten_append,length_append]
  omega
 omega
theorem Lz(l:List ev)(c:l.length<=1000000)(b:l.flatten.length<=1000000):uO l []=some l.flatten:=by
 cases l with
 |nil=>rfl
 |cons a l =>
  rw[od]at b;simp only[map_cons,sum_cons,length_cons]at c b;rw[lJ [] a l (by simp) (by omega) (by omega)];simp
theorem lI(l:List ev)(i j:Nat)(a:l.length<=1000000)(b:l.flatten.length<=1000000):uO (List.take ((j:Int).toNat-(i:Int).toNat) (List.drop (i:Int).toNat l)) []=some (sl l i j):=by have:=Cy l i j;simp only[Int.toNat_natCast];exact Lz _ (by simp only[length_take,length_drop];omega) (by unfold sl at this;omega)
theorem RQ(x y z:List ev)(i j k d a b c:Nat)(o:ev)(hx:x.length<=100000/\x.flatten.length<=100000)(l:y.length<=100000/\y.flatten.length<=100000)(hz:z.length<=100000/\z.flatten.length<=100000)
  (m:d<=i/\i<=x.length) (n:a<=j/\j<=y.length) (p:b<=k/\k<=z.length) (q:o.length<=100000000000) (r:c<=1000000) :
  yO i j k x d y a z b o c=some (o++(blk (sl x d i) (sl y a j) (sl z b k)).1,((c+if (blk (sl x d i) (sl y a j) (sl z b k)).2 then 1 else 0:Nat):Int)):=by
 have s:=Cy y a j;have t:=Cy z b k;have f:=mg (sl x d i) (sl y a j) (sl z b k);have u:=Mu (sl y a j);have v:=Mu (sl z b k);unfold yO;rw[zg (by omega),lI x d i (by omega) (by omega),zf,zg (by omega),lI y a j (by omega) (by omega),zf,zg (by omega),lI z b k (by omega) (by omega),zf];have e:decide (sl z b k=sl y a j)=decide (sl y a j=sl z b k):=decide_eq_decide.2 ⟨Eq.symm,Eq.symm⟩;rw[e];unfold blk at f|-;cases g:decide (sl y a j=sl x d i)
 .simp only[g,cond_false]at f|-;cases h:(decide (sl z b k=sl x d i)||decide (sl y a j=sl z b k))
  .simp only[h,cond_false]at f|-;rw[Rj _ (by omega),zf,zg (by simp;omega),zg (by simp;omega),Rj _ (by omega),zf,zg (by simp;omega),zg (by simp;omega),zg (by simp;omega),fw c (by omega)];rfl
  .simp only[h,cond_true]at f|-;rw[zg (by simp;omega)];rfl
 .simp only[g,cond_true]at f|-;rw[zg (by simp;omega)];rfl
theorem tj(P:List Pr)(t:Nat)(u:Int):∃r:Int,GR (jw P) (ao.mk (t:Int) u)=some r/\(rH P t=none->r=-1)/\∀k,rH P t=some k->∃i:Nat,r=i/\P[i]?=some (t,k):=by
 have m:∀(l:List Pr) (q:Nat),∃r:Int,(forL (jw l) q (fun f g s d y =>
  call (IH g (ao.mk (t:Int) u)) fun j =>
  bif j then
   some (f:Int)
  else
  d ()) () (fun _=>some (-1)))=some r/\(rH l t=none->r=-1)/\∀k,rH l t=some k->∃i:Nat,r=((q+i:Nat):Int)/\l[i]?=some (t,k):=by
  intro l;induction l with
  |nil=>intro q;exact⟨-1,rfl,fun _=>rfl,fun k h=>by simp[rH]at h⟩
  |cons p l z =>
   intro q;have c:IH (ao.mk p.1 p.2) (ao.mk (t:Int) u)=some (decide ((p.1:Int)=(t:Int))):=rfl;by_cases e:p.1=t
   .refine⟨q,?_,fun h=>?_,fun k h=>⟨0,by simp,?_⟩⟩
    .rw[show jw (p::l)=ao.mk p.1 p.2::jw l from rfl];unfold forL;dsimp only;rw[c,zf,decide_eq_true (by omega)];rfl
    .rw[Hu,if_pos e]at h;cases h
    .rw[Hu,if_pos e]at h;cases h;obtain⟨a,b⟩:=p;subst e;rfl
   .obtain⟨r,n,o,v⟩:=z (q+1);refine⟨r,?_,fun h=>?_,fun k h=>?_⟩
    .rw[show jw (p::l)=ao.mk p.1 p.2::jw l from rfl];unfold forL;dsimp only;rw[c,zf,decide_eq_false (by omega)];exact n
    .rw[Hu,if_neg e]at h;exact o h
    .rw[Hu,if_neg e]at h;obtain⟨i,w,x⟩:=v k h;exact⟨i+1,by rw[w];congr 1;omega,by simpa using x⟩
 obtain⟨r,n,o,v⟩:=m P 0;refine⟨r,?_,o,fun k h=>?_⟩
 .unfold GR;rw[eJ];exact n
 .obtain⟨i,w,x⟩:=v k h;exact⟨i,by rw[w];simp,x⟩
structure MS where
 o:ev
 c:Nat
 fi:Nat
 fj:Nat
 fk:Nat
def tup(s:MS):ev×Int×Int×Int×Int:=(s.o,s.c,s.fi,s.fj,s.fk)
def Ct(x y z:List ev)(i j k:Nat)(s:MS):MS:=⟨s.o++(blk (sl x s.fi i) (sl y s.fj j) (sl z s.fk k)).1++x.getD i [],s.c+(if (blk (sl x s.fi i) (sl y s.fj j) (sl z s.fk k)).2 then 1 else 0),i+1,j+1,k+1⟩
structure BdL(l:List ev):Prop where
 n:l.length<=1000
 s:l.flatten.length<=100000
theorem BdL.w{l:List ev}(h:BdL l):l.length<=100000/\l.flatten.length<=100000:=⟨by have:=h.n;omega,h.s⟩
theorem n8(l:List ev)(i:Nat):(l.getD i []).length<=l.flatten.length:=by
 induction l generalizing i with
 |nil=>simp
 |cons a l b =>
  cases i with
  |zero=>simp
  |succ i=>have:=b i;simp only[getD_cons_succ,flatten_cons,length_append];omega
structure Iv(x y z:List ev)(P1 P2:List Pr)(t:Nat)(s:MS):Prop where
 fi:s.fi<=t
 tx:t<=x.length
 fj:s.fj<=y.length
 fk:s.fk<=z.length
 p1:∀p∈P1,t<=p.1->s.fj<=p.2
 p2:∀p∈P2,t<=p.1->s.fk<=p.2
 ob:s.o.length<=1000000*t
 cb:s.c<=t
section
variable {x y z:List ev} {P1 P2:List Pr}
theorem Iv.mono{t a:Nat}{s:MS}(h:Iv x y z P1 P2 t s)(e:t<=a)(c:a<=x.length):Iv x y z P1 P2 a s :=
 ⟨by have:=h.fi;omega,c,h.fj,h.fk,fun p b d=>h.p1 p b (by omega),fun p b d=>h.p2 p b (by omega),by have:=h.ob;omega,by have:=h.cb;omega⟩
theorem Iv.zero:Iv x y z P1 P2 0 ⟨[],0,0,0,0⟩:=⟨Nat.le_refl _,by omega,by simp,by simp,by simp,by simp,by simp,by simp⟩
theorem Iv.step(hx:BdL x)(m:BdL y)(hz:BdL z)(b:Rise x y P1)(c:Rise x z P2){t i j k:Nat}{s:MS}(h:Iv x y z P1 P2 t s)(d:(i,j)∈P1)(e:(i,k)∈P2)(q:t<=i):Iv x y z P1 P2 (i+1) (Ct x y z i j k s):=by
 obtain⟨f,g,_⟩:=b.mem _ d;obtain⟨n,l,_⟩:=c.mem _ e;simp only at f g n l;refine⟨Nat.le_refl _,f,g,l,fun p a o=>b.lt d a (by simp only;omega),fun p a o=>c.lt e a (by simp only;omega),?_,?_⟩
 .have:=mg (sl x s.fi i) (sl y s.fj j) (sl z s.fk k);have:=Cy y s.fj j;have:=Cy z s.fk k;have:=n8 x i;have:=hx.s;have:=m.s;have:=hz.s;have:=h.ob;simp only[Ct,length_append];omega
 .have:=h.cb;simp only[Ct];split <;> omega
theorem Ep(hx:BdL x)(O:BdL y)(hz:BdL z)(P:Rise x y P1)(X:Rise x z P2){Z:Type}(K:ev×Int×Int×Int×Int->Option Z):∀(l v:List Pr) (q t:Nat) (u:MS),P1=v++l->Iv x y z P1 P2 t u->(∀p∈l,t<=p.1) ->
 forL (jw l) q (fun Y m s A k_72 =>
  match s with
  |(d,f,g,h,j) =>
   call (GR (jw P2) m) fun D =>
   bif decide (D<0)then
    A (d,f,g,h,j)
   else
   eL (jw P2) D fun E =>
   call (yO m.M m.L E.L x g y h z j d f) fun B =>
   eL x m.M fun F =>
   eA ((B.1++F).length<=274877906944) <|
   A (B.1++F,B.2,IntKind.i64.wrap (m.M+1),IntKind.i64.wrap (m.L+1),IntKind.i64.wrap (E.L+1))) (tup u) (fun s=>match s with
  |(d,f,g,h,j) =>
   K (d,f,g,h,j))=K (tup (pX P2 (Ct x y z) l u)):=by
 intro l;induction l with
 |nil=>intro v q t u _ _ _;rfl
 |cons p l ih =>
  intro v q t u e hi hl;have hxn:=hx.n;have G:=P.up;rw[e,pairwise_append]at G;have Q:∀r∈l,p.1+1<=r.1:=by
   intro r H;have:=G.2.1;cases this with
   |cons a b=>exact(a r H).1
  have m1:p∈P1:=by rw[e];simp
  obtain⟨l0,l1,_⟩:=P.mem p m1;have e':P1=(v++[p])++l:=by rw[e];simp
  rw[show jw (p::l)=ao.mk p.1 p.2::jw l from rfl];unfold forL;simp only[tup];obtain⟨r,H,h1,h2⟩:=tj P2 p.1 (p.2:Int);rw[H,zf];unfold pX;cases R:rH P2 p.1 with
  |none =>
   rw[h1 R,show decide ((-1:Int)<0)=true from rfl,cond_true];exact ih (v++[p]) (q+1) t u e' hi fun r H=>hl r (by simp[H])
  |some k =>
   obtain⟨i,rfl,S⟩:=h2 k R;have m2:=lA R;obtain⟨_,l2,_⟩:=X.mem _ m2;simp only at l2;obtain⟨T,U⟩:=List.getElem?_eq_some_iff.1 S;have I:i<(jw P2).length:=by simp[jw];exact T
   have V:(jw P2)[i]=ao.mk (p.1:Nat) (k:Nat):=by simp[jw,U]
   have J:=hl p (by simp);have C:=hi.mono J (by omega);have hyn:=O.n;have hzn:=hz.n;have hob:=C.ob;have hcb:=C.cb;have hb:=mg (sl x u.fi p.1) (sl y u.fj p.2) (sl z u.fk k);have:=Cy y u.fj p.2;have:=Cy z u.fk k;have W:=n8 x p.1;have hxs:=hx.s;have hys:=O.s;have hzs:=hz.s;have N:x.getD p.1 []=x[p.1]:=by simp[getD_eq_getElem?_getD,l0]
   rw[N]at W;rw[decide_eq_false (by omega),cond_false,mJ I,V,
    RQ x y z p.1 p.2 k u.fi u.fj u.fk u.c u.o hx.w O.w hz.w ⟨C.fi,by omega⟩ ⟨C.p1 _ m1 (Nat.le_refl _),by omega⟩ ⟨C.p2 _ m2 (Nat.le_refl _),by omega⟩ (by omega) (by omega),zf,mJ l0,zg (by simp only[length_append];omega),fw p.1 (by omega),fw p.2 (by omega),fw k (by omega)]
   have:=ih (v++[p]) (q+1) (p.1+1) (Ct x y z p.1 p.2 k u) e' (hi.step hx O hz P X m1 m2 J) Q;rw[<-N];exact this
def pw(x y z:List ev)(a P2:List Pr):MS:=pX P2 (Ct x y z) a ⟨[],0,0,0,0⟩
def Tm(x y z:List ev)(a b:List Pr):ev×Bool:=blk (sl x (pw x y z a b).fi x.length) (sl y (pw x y z a b).fj y.length) (sl z (pw x y z a b).fk z.length)
def N9(x y z:List ev)(a b:List Pr):ev:=(pw x y z a b).o++(Tm x y z a b).1
def Tl(x y z:List ev)(a b:List Pr):Nat:=(pw x y z a b).c+if (Tm x y z a b).2 then 1 else 0
theorem Kn(hx:BdL x)(b:BdL y)(hz:BdL z)(a:Rise x y P1)(c:Rise x z P2):∃t,Iv x y z P1 P2 t (pw x y z P1 P2) :=
 OJ (P2:=P2) (step:=Ct x y z) (Iv x y z P1 P2) P1 0 ⟨[],0,0,0,0⟩ .zero a.up (fun _ _=>Nat.zero_le _) fun p d k t s e f h=>h.step hx b hz a c d (lA e) f
def Tj(x y z:List ev)(a b:List Pr):ev×Int×Int:=bif decide (65536<((N9 x y z a b).length:Int))then([],0,4)else(N9 x y z a b,Tl x y z a b,0)
theorem Ay(hx:BdL x)(a:BdL y)(hz:BdL z)(b:Rise x y P1)(d:Rise x z P2):yO (x.length:Int) (y.length:Int) (z.length:Int) x (pw x y z P1 P2).fi y (pw x y z P1 P2).fj z (pw x y z P1 P2).fk (pw x y z P1 P2).o (pw x y z P1 P2).c=some (N9 x y z P1 P2,(Tl x y z P1 P2:Int)):=by obtain⟨t,h⟩:=Kn hx a hz b d;have:=hx.n;have:=h.fi;have:=h.tx;have:=h.ob;have:=h.cb;exact RQ x y z _ _ _ _ _ _ _ _ hx.w a.w hz.w ⟨by omega,by omega⟩ ⟨h.fj,by omega⟩ ⟨h.fk,by omega⟩ (by omega) (by omega)
end
structure Sh(s:ev):Prop where
 b:s.length<=65536
 n:(fu s).length<=1000
theorem Sh.of{s:ev}(h:s.length<=600):Sh s:=⟨by omega,by have:=qk s;omega⟩
theorem O8{s:ev}(h:Sh s):BdL (fu s):=⟨h.n,by rw[nK];have:=h.b;omega⟩
theorem R7(a b:ev)(d:Sh a)(e:Sh b):BQ a b=some 0:=by
 have g:=d.n;have h:=e.n;have i:=d.b;have j:=e.b;have step:∀(s:ev) (k:Option Int),Sh s->(callG (!(decide (65536<(s.length:Int)))) (yD s) [] fun c =>
  bif ((decide (65536<(s.length:Int)))||(decide (1000<(c.length:Int))))then some 4 else k)=k:=by
  intro s k f;have:=f.n;have:=f.b;rw[H8 s (by omega),gU,decide_eq_false (by omega),Bool.not_false,cond_true,decide_eq_false (by omega)];rfl
 unfold BQ;rw[eJ];unfold forL;dsimp only;rw[step a _ d];unfold forL;dsimp only;rw[step b _ e];rfl
def Th(c a b:ev):ev×Int×Int:=Tj (fu c) (fu a) (fu b) (gr (fu c) (fu a) 0 0) (gr (fu c) (fu b) 0 0)
theorem Tu(d a b:ev)(e:Sh d)(f:Sh a)(g:Sh b):CU d a b=some (Th d a b):=by
 have h:=O8 e;have i:=O8 f;have j:=O8 g;have u:=h.n;have m:=i.n;have p:=j.n;have v:=e.b;have w:=f.b;have x:=g.b;have k:=rQ (fu d) (fu a);have l:=rQ (fu d) (fu b);unfold CU;rw[R7 d a e f,zf,R7 d b e g,zf,show ig [0,0]=some 0 from rfl,zf];rw[show decide ((0:Int)=0)=true from rfl,Bool.not_true,cond_false];rw[H8 d (by omega),zf,H8 a (by omega),zf,H8 b (by omega),zf];rw[pd _ _ (by omega) (by omega),zf,pd _ _ (by omega) (by omega),zf,eJ];generalize q:(fun(s:ev×Int×Int×Int×Int)=>(_:Option (ev×Int×Int)))=K;have r:=Ep h i j k l K _ [] 0 0 ⟨[],0,0,0,0⟩ rfl .zero (fun _ _=>Nat.zero_le _);refine Eq.trans r ?_;subst q;have t:=Ay h i j k l;show call (yO ((fu d).length:Int) ((fu a).length:Int) ((fu b).length:Int) (fu d) (pw (fu d) (fu a) (fu b) _ _).fi (fu a) (pw (fu d) (fu a) (fu b) _ _).fj (fu b) (pw (fu d) (fu a) (fu b) _ _).fk (pw (fu d) (fu a) (fu b) _ _).o (pw (fu d) (fu a) (fu b) _ _).c) _=_;rw[t,zf];unfold Th Tj;dsimp only;cases decide (65536<((N9 (fu d) (fu a) (fu b) (gr (fu d) (fu a) 0 0) (gr (fu d) (fu b) 0 0)).length:Int)) <;> rfl
def mE(s:ev):Bool:=decide (65536<(s.length:Int))||decide (1000<((fu s).length:Int))
theorem vu{s:ev}(h:mE s=false):Sh s:=by unfold mE at h;rw[Bool.or_eq_false_iff,decide_eq_false_iff_not,decide_eq_false_iff_not]at h;exact⟨by omega,by omega⟩
theorem SD(a b:ev)(d:a.length<=17179869184)(e:b.length<=17179869184):BQ a b=some (bif (mE a||mE b)then 4 else 0):=by
 have step:∀(s:ev) (k:Option Int),s.length<=17179869184->(callG (!(decide (65536<(s.length:Int)))) (yD s) [] fun c =>
  bif ((decide (65536<(s.length:Int)))||(decide (1000<(c.length:Int))))then some 4 else k)=bif mE s then some 4 else k:=by
  intro s k f;rw[H8 s f,gU];unfold mE;cases decide (65536<(s.length:Int)) <;> rfl
 unfold BQ;rw[eJ];unfold forL;dsimp only;rw[step a _ d];unfold forL;dsimp only;rw[step b _ e];cases mE a <;> cases mE b <;> rfl
abbrev W1:=List (ev×ae)
abbrev W2:=List (ev×ev)
abbrev W3:=List (ev×ah)
theorem FR(x:al)(h:Mb x):ua x=some (D8 x):=by
 unfold ua D8;simp only[eJ,uI,zf];have a:=yy 114 h.d;have b:=yy 45 h.d;have c:=yy 45 h.s;have e:=yy 97 h.v;have f:=yy 45 h.v;unfold eH;cases decide (x.g=5)with
 |true =>
  show(eA _ <| _)=_;rw[zg c,CO];rfl
 |false =>
  cases decide (x.g=6)with
  |true =>
   show(bif x.h.I then _ else _)=_;unfold Qq;cases x.h.I with
   |true=>show(eA _ <| _)=_;rw[zg e,CO];rfl
   |false=>show(eA _ <| _)=_;rw[zg f,CO];rfl
  |false =>
   show(bif x.j.H then _ else _)=_;unfold Qr;cases x.j.H with
   |true=>show(eA _ <| _)=_;rw[zg a,CO];rfl
   |false=>show(eA _ <| _)=_;rw[zg b,CO];rfl
theorem OH(x:al):Cn x=some (uo x):=by
 unfold Cn uo;rw[uI,zf];unfold eH;cases decide (x.g=5) <;> cases decide (x.g=6) <;> rfl
theorem CI(o:ev)(x:al)(h:Mb x):uG o x=some (mD o x):=by
 unfold uG mD;rw[OH,zf,FR x h,zf];cases decide (x.g=3) <;> rfl
def jR(a b:aa):Bool:=decide (eH a.g=eH b.g)&&decide (a.a=b.a)
theorem CJ(a b:aa):uP a b=some (jR a b):=by
 unfold uP;rw[uI,zf,uI,zf];rfl
def wz(L:Lw)(h:aa):al :=
 bif decide (eH h.g=0)then⟨h.g,(L.f h.a).getD jf,mH,iC⟩else bif decide (eH h.g=1)then⟨h.g,jf,⟨h.a,((L.s h.a).map (·.Value)).getD []⟩,iC⟩else⟨h.g,jf,mH,(L.v h.a).getD iC⟩
section
variable {m1:W1} {m2:W2} {m3:W3} {M:ak}
theorem MP(h:Wr m1 m2 m3 M)(x:aa)(F:List ab):BW x F m1 m2 m3=some (wz (B7 M) x,(GU (B7 M) (rm x)).isSome):=by
 unfold BW wz;rw[uI,zf];simp only[fK];have t:=iN x.g;unfold GU rm;simp only;by_cases b:eH x.g=0
 .rw[decide_eq_true b,decide_eq_false (by omega:¬ eH x.g+1=2),decide_eq_false (by omega:¬ eH x.g+1=3)];simp only[cond_true,cond_false,h.look1,Option.isSome_map];rfl
 .rw[decide_eq_false b];by_cases c:eH x.g=1
  .rw[decide_eq_true c,decide_eq_true (by omega:eH x.g+1=2)];simp only[cond_true,cond_false,h.is2,Option.isSome_map];have e:=h.look2 x.a;have:eG m2 x.a=(wk M.E x.a).map (·.Value):=by rw[<-e];cases eG m2 x.a <;> rfl
   rw[this];rfl
  .rw[decide_eq_false c,decide_eq_false (by omega:¬ eH x.g+1=2),decide_eq_true (by omega:eH x.g+1=3)];simp only[cond_true,cond_false,h.look3,Option.isSome_map];rfl
theorem lL{L:Lw}(hz:Sz L)(x:aa):Mb (wz L x):=by
 have z:Sm ([]:ev):=Nat.zero_le _;unfold wz;cases decide (eH x.g=0)with
 |true =>
  refine⟨?_,z,z⟩;show Sm ((L.f x.a).getD jf).G;cases e:L.f x.a with
  |none=>exact z
  |some y=>exact(hz.f _ _ e).1
 |false =>
  cases decide (eH x.g=1)with
  |true =>
   refine⟨z,?_,z⟩;show Sm (((L.s x.a).map (·.Value)).getD []);cases e:L.s x.a with
   |none=>exact z
   |some y=>exact(hz.s _ _ e).1
  |false =>
   refine⟨z,z,?_⟩;show Sm ((L.v x.a).getD iC).a;cases e:L.v x.a with
   |none=>exact z
   |some y=>exact(hz.v _ _ e).1
theorem AJ{L:Lw}{x:aa}{s:ev}(h:GU L (rm x)=some s):D8 (wz L x)=s:=by
 unfold GU rm at h;simp only at h;by_cases c:x.g=5
 .have b:eH x.g=1:=by rw[c];rfl
  rw[b,decide_eq_true (by omega:(1:Int)+1=2),cond_true]at h;have d:wz L x=⟨x.g,jf,⟨x.a,((L.s x.a).map (·.Value)).getD []⟩,iC⟩:=by unfold wz;rw[b];rfl
  rw[d];unfold D8;rw[decide_eq_true (show(al.mk x.g jf ⟨x.a,((L.s x.a).map (·.Value)).getD []⟩ iC).g=5 from c),cond_true];cases e:L.s x.a with
  |none=>rw[e]at h;cases h
  |some y=>rw[e]at h;exact Option.some.inj h
 .by_cases i:x.g=6
  .have b:eH x.g=2:=by rw[i];rfl
   rw[b,decide_eq_false (by omega:¬ (2:Int)+1=2),cond_false,decide_eq_true (by omega:(2:Int)+1=3),cond_true]at h;have d:wz L x=⟨x.g,jf,mH,(L.v x.a).getD iC⟩:=by unfold wz;rw[b];rfl
   rw[d];unfold D8;rw[decide_eq_false (show ¬ (al.mk x.g jf mH ((L.v x.a).getD iC)).g=5 from c),cond_false,decide_eq_true (show(al.mk x.g jf mH ((L.v x.a).getD iC)).g=6 from i),cond_true];cases e:L.v x.a with
   |none=>rw[e]at h;cases h
   |some y=>rw[e]at h;exact Option.some.inj h
  .have b:eH x.g=0:=by unfold eH;rw[decide_eq_false c,decide_eq_false i];rfl
   rw[b,decide_eq_false (by omega:¬ (0:Int)+1=2),cond_false,decide_eq_false (by omega:¬ (0:Int)+1=3),cond_false]at h;have d:wz L x=⟨x.g,(L.f x.a).getD jf,mH,iC⟩:=by unfold wz;rw[b];rfl
   rw[d];unfold D8;rw[decide_eq_false (show ¬ (al.mk x.g ((L.f x.a).getD jf) mH iC).g=5 from c),cond_false,decide_eq_false (show ¬ (al.mk x.g ((L.f x.a).getD jf) mH iC).g=6 from i),cond_false];cases e:L.f x.a with
   |none=>rw[e]at h;cases h
   |some y=>rw[e]at h;exact Option.some.inj h
theorem jX(h:Wr m1 m2 m3 M)(a:Good M)(x:aa)(F:List ab):GL x F m1 m2 m3=some (J9 (B7 M) x):=by
 unfold GL J9;rw[MP h,zf];cases e:GU (B7 M) (rm x)with
 |none=>rfl
 |some s =>
  simp only[Option.isSome_some,Bool.not_true,cond_false];rw[FR _ (lL (Sz.good a) x),zf,AJ e];cases decide (s=x.y) <;> rfl
end
structure Wk(n:Nat)(m1:W1)(m2:W2)(m3:W3)(o:List ai):Prop where
 w:∃N,Good N/\Wr m1 m2 m3 N
 l:o.length<=n
 c:∀c∈o,kL c
section
variable {m1:W1} {m2:W2} {m3:W3} {o:List ai} {n:Nat}
theorem Wk.le{a:Nat}(h:Wk n m1 m2 m3 o)(b:n<=a):Wk a m1 m2 m3 o:=⟨h.w,Nat.le_trans h.l b,h.c⟩
theorem Wk.put(h:Wk n m1 m2 m3 o)(c:ai)(f:kL c)(F:List ab):∃e a b d,yN c F m1 m2 m3=some (e,a,b,d)/\Wk (n+1) a b d (o++[c]):=by
 obtain⟨N,g,i⟩:=h.w;obtain⟨a,b,d,j,k⟩:=Ci i g c f F;refine⟨_,a,b,d,j,⟨_,M6 g c,k⟩,?_,fun x hx=>?_⟩
 .have:=h.l;simp only[length_append,length_cons,length_nil];omega
 .rcases mem_append.1 hx with hx|hx
  .exact h.c x hx
  .rw[mem_singleton.1 hx];exact f
theorem Hn(h:Wk n m1 m2 m3 o)(k:n<=1073741824)(c:ai)(g:kL c)(H:List aa)(e:Int)(F:List ab)(i:List am) :
  Ends (mL c H e F m1 m2 m3 o i) fun r=>Wk (n+1) r.2.1 r.2.2.1 r.2.2.2.1 r.2.2.2.2:=by
 obtain⟨m,a,b,d,j,f⟩:=h.put c g F;unfold mL;rw[zg (by have:=f.l;omega),j,zf];cases decide (e=0) <;> exact⟨_,rfl,f⟩
theorem uU(h:Wk n m1 m2 m3 o)(j:n<=1073741824)(c:ai)(g:kL c)(H:List aa)(e:Int)(F:List ab) :
  Ends (H9 c H e F m1 m2 m3 o) fun r=>Wk (n+1) r.2.1 r.2.2.1 r.2.2.2.1 r.2.2.2.2:=by
 obtain⟨k,a,b,d,i,f⟩:=h.put c g F;unfold H9;rw[zg (by have:=f.l;omega),i,zf];cases decide (e=0) <;> exact⟨_,rfl,f⟩
theorem FY(k:Int)(p:ev)(H:List aa)(e:Int)(F:List ab)(a:List am)(b:a.length<=1073741824):um k p H e F m1 m2 m3 o a=some (a++[⟨k,p⟩]):=by unfold um;rw[zg (by simp only[length_append,length_cons,length_nil];omega)]
theorem yV(h:Wk n m1 m2 m3 o)(i:n<=1073741824)(x:aa)(hx:Sm x.a)(H:List aa)(e:Int)(F:List ab)(d:List am) :
  Ends (GG x H e F m1 m2 m3 o d) fun r=>Wk (n+1) r.2.1 r.2.2.1 r.2.2.2.1 r.2.2.2.2:=by
 have z:Sm ([]:ev):=Nat.zero_le _;unfold GG;simp only[eJ,uI,zf];have f:∀(k:Int) (a b c:ev),Sm a->Sm b->Ends (call (mL (ai.mk k (ae.mk a [] false) (ab.mk b []) (ah.mk c [] false false)) H e F m1 m2 m3 o d) fun r=>some (r.1,r.2.1,r.2.2.1,r.2.2.2.1,r.2.2.2.2)) fun r=>Wk (n+1) r.2.1 r.2.2.1 r.2.2.2.1 r.2.2.2.2:=fun k a b c j l =>
  Ends.call (Hn h i _ ⟨j,l,z⟩ H e F d) fun r m=>⟨_,rfl,m⟩
 unfold eH;cases decide (x.g=5)with
 |true=>exact f 4 [] x.a [] z hx
 |false =>
  cases decide (x.g=6)with
  |true=>exact f 6 [] [] x.a z z
  |false=>exact f 2 x.a [] [] hx z
end
def Mg:Prop:=∀a b c:ev,Sm a->Sm b->Sm c->Ends (CU a b c) fun _=>True
theorem QU(s:List aa)(f:aa):Ends (zW s f) fun _=>True:=by unfold zW;have e:NX s f=xP (fun h=>IJ h f) s:=rfl;rw[e,BG (p:=fun h=>!decide (h.r=f.r)&&jR h f) s (fun h _=>by unfold IJ;rw[CJ,gU];cases decide (h.r=f.r) <;> rfl),zf];exact⟨_,rfl,trivial⟩
theorem QT(s:List al)(f:ae):Ends (zS s f) fun _=>True:=by unfold zS;have e:N2 s f=xP (fun h=>IR h f) s:=rfl;rw[e,BG (p:=fun h=>decide (eH h.g=0)&&decide ((bif decide (eH h.g=0)then uo h else [])=f.a)) s (fun h _=>by unfold IR;rw[uI,zf,OH,gU]),zf];exact⟨_,rfl,trivial⟩
theorem wJ{α β:Type}{P:β->Prop}(p:α->Bool){f:α->Unit->(Unit->Option β)->(Unit->Option β)->Option β}{k:Unit->Option β}{X:β}(l:List α)
  (i:∀x nx m,f x () nx m=bif p x then some X else nx ()) (t:P X) (n:Ends (k ()) P):Ends (forM f l.length l () k) P:=by
 obtain⟨Y,o,u⟩:=n;refine⟨bif l.any p then X else Y,?_,by cases l.any p <;> assumption⟩;refine MG (fun r _=>l.any p=r.any p) (fun s q=>?_) (fun r s nx x j h hx g=>?_) _ _ _ rfl rfl
 .rw[q];exact o
 .have c:=NE hx
  have b:r.any p=(p x||(r.eraseIdx j).any p):=by
   rw[Bool.eq_iff_iff];simp only[Bool.or_eq_true,any_eq_true];constructor
   .rintro⟨y,d,a⟩;rcases mem_cons.1 (c.mem_iff.1 d)with rfl|d
    .exact .inl a
    .exact .inr ⟨y,d,a⟩
   .rintro(a|⟨y,d,a⟩)
    .exact⟨x,c.mem_iff.2 (mem_cons_self ..),a⟩
    .exact⟨y,c.mem_iff.2 (mem_cons_of_mem _ d),a⟩
  rw[i];cases e:p x with
  |true=>rw[h,b,e];rfl
  |false =>
   rw[cond_false];refine g () ?_;rw[h,b,e,Bool.false_or]
section
variable {m1:W1} {m2:W2} {m3:W3} {o:List ai} {n:Nat}
abbrev Wn(n:Nat)(r:Int×W1×W2×W3×List ai×List am):Prop:=Wk n r.2.1 r.2.2.1 r.2.2.2.1 r.2.2.2.2.1/\r.2.2.2.2.2.length<=n
theorem lenN{A:Type}{l:List A}{n:Nat}(h:l.length<=n)(x:A):(l++[x]).length<=n+1:=by simp only[length_append,length_cons,length_nil];omega
theorem r8(h:Wk n m1 m2 m3 o)(l:n<=1073741824)(x:aa)(hx:Sm x.a)(d:au)(H:List aa)(e:Int)(F:List ab)(f:List am)(i:f.length<=n) :
  Ends (GF x d H e F m1 m2 m3 o f) (Wn (n+1)):=by
 obtain⟨N,m,p⟩:=h.w;unfold GF;rw[jX p m,zf];have c:Ends (some (e,m1,m2,m3,o,f)) (Wn (n+1)):=⟨_,rfl,h.le (by omega),Nat.le_succ_of_le i⟩;have j:Ends (call (GG x H e F m1 m2 m3 o f) fun r=>some (r.1,r.2.1,r.2.2.1,r.2.2.2.1,r.2.2.2.2,f)) (Wn (n+1)) :=
  Ends.call (yV h l x hx H e F f) fun r q=>⟨_,rfl,q,Nat.le_succ_of_le i⟩
 have k:Ends (call (um 6 x.a H e F m1 m2 m3 o f) fun r=>some (e,m1,m2,m3,o,r)) (Wn (n+1)):=by rw[FY _ _ _ _ _ _ (by omega),zf];exact⟨_,rfl,h.le (by omega),lenN i _⟩
 cases decide (J9 (B7 N) x=3)with
 |true=>exact c
 |false =>
  simp only[cond_false,eJ];cases decide (x.g=2)with
  |true =>
   simp only[cond_true];refine Ends.call (QU _ _) fun b _=>?_;cases b with
   |true=>exact c
   |false=>cases (decide (J9 (B7 N) x=2)&&!d.N) <;> first|exact j|exact k
  |false =>
   simp only[cond_false];cases decide (x.g=3) <;> cases decide (x.g=4) <;> cases decide (x.g=5) <;> cases (decide (J9 (B7 N) x=2)&&!d.O) <;> first|exact j|exact k
theorem tQ(h:Wk n m1 m2 m3 o)(B:n<=1073741824)(H:List aa)(e:Int)(F:List ab)(f:List am)(w:f.length<=n)(g:ev)(k:Int)(p d:ev)(L:p.length<=1073741824)(b:Bool)(C D E G:ev)(I J:Bool)(l:List al) :
  Ends (C7 H e F m1 m2 m3 o f g k p d b C D E G I J l) (Wn (n+1)):=by
 have z:Sm ([]:ev):=Nat.zero_le _;unfold C7;rw[FY _ _ _ _ _ _ (by omega),zf];have M:(p++([46,110,101,119]:ev)).length<=1073741828:=by simp only[length_append,length_cons,length_nil];omega
 have m:Sm (p++([46,110,101,119]:ev)):=by unfold Sm;omega
 rw[zg (by omega),CX _ m,zf];have t:Ends (some (e,m1,m2,m3,o,f++[⟨4,g⟩])) (Wn (n+1)):=⟨_,rfl,h.le (by omega),lenN w _⟩;have u:∀x:Bool,Ends (bif (!fS (p++([46,110,101,119]:ev)))||x then some (e,m1,m2,m3,o,f++[⟨4,g⟩])else
   jp (S:=Unit) (fun _ =>
    call (mL (ai.mk 1 (ae.mk (p++([46,110,101,119]:ev)) d b) (ab.mk [] []) (ah.mk [] [] false false)) H e F m1 m2 m3 o (f++[⟨4,g⟩])) fun a =>
    some (a.1,a.2.1,a.2.2.1,a.2.2.2.1,a.2.2.2.2,f++[⟨4,g⟩])) fun v =>
   forM (fun c s i A =>
    callG (!(decide (c.1=(p++([46,110,101,119]:ev))))) (uE c.1 (p++([46,110,101,119]:ev))) false fun j =>
    bif ((decide (c.1=(p++([46,110,101,119]:ev))))||j)then
     some (e,m1,m2,m3,o,f++[⟨4,g⟩])
    else
    i ()) m1.length m1 () (fun _ =>
    v ())) (Wn (n+1)):=by
  intro x;cases (!fS (p++([46,110,101,119]:ev)))||x with
  |true=>exact t
  |false =>
   simp only[cond_false,eJ];have y:Ends (call (mL (ai.mk 1 (ae.mk (p++([46,110,101,119]:ev)) d b) (ab.mk [] []) (ah.mk [] [] false false)) H e F m1 m2 m3 o (f++[⟨4,g⟩])) fun a =>
    some (a.1,a.2.1,a.2.2.1,a.2.2.2.1,a.2.2.2.2,f++[⟨4,g⟩])) (Wn (n+1)) :=
    Ends.call (Hn h B _ ⟨m,z,z⟩ H e F _) fun r K=>⟨_,rfl,K,lenN w _⟩
   refine wJ (fun q=>decide (q.1=p++([46,110,101,119]:ev))||gv q.1 (p++([46,110,101,119]:ev))) m1 (fun q nx N=>?_) (X:=(e,m1,m2,m3,o,f++[⟨4,g⟩])) ⟨h.le (by omega),lenN w _⟩ y;rw[MQ _ _ (by omega),gU];cases decide (q.1=p++([46,110,101,119]:ev)) <;> rfl
 cases O:(!(!fS (p++([46,110,101,119]:ev))))with
 |true =>
  rw[yH];exact Ends.call (QT _ _) fun b _=>u b
 |false =>
  rw[C1];exact u false
end
theorem Ends.jp{S Z:Type}{F:S->Option Z}{G:(S->Option Z)->Option Z}{P:Z->Prop}(a:∀s,Ends (F s) P)(b:∀k,(∀s,Ends (k s) P)->Ends (G k) P):Ends (jp F G) P:=by rw[eJ];exact b F a
theorem Ends.jpI{S Z:Type}(I:S->Prop){F:S->Option Z}{G:(S->Option Z)->Option Z}{P:Z->Prop}(a:∀s,I s->Ends (F s) P)(b:∀k,(∀s,I s->Ends (k s) P)->Ends (G k) P):Ends (Vc.jp F G) P:=by rw[eJ];exact b F a
theorem Ends.bif{Z:Type}{b:Bool}{x y:Option Z}{P:Z->Prop}(hx:b=true->Ends x P)(a:b=false->Ends y P):Ends (bif b then x else y) P:=by
 cases b with
 |true=>exact hx rfl
 |false=>exact a rfl
structure It(x:al):Prop where
 m:Ra x
 z:Mb x
 p:x.j.a.length<=1073741824
section
variable {m1:W1} {m2:W2} {m3:W3} {o:List ai} {n:Nat}
theorem znR(h:Wk n m1 m2 m3 o)(d:n<=1073741824)(c:ai)(f:kL c)(H:List aa)(e:Int)(F:List ab)(b a:List am)(g:a.length<=n+1) :
  Ends (call (mL c H e F m1 m2 m3 o b) fun r=>some (r.1,r.2.1,r.2.2.1,r.2.2.2.1,r.2.2.2.2,a)) (Wn (n+1)) :=
 Ends.call (Hn h d c f H e F b) fun r i=>⟨_,rfl,i,g⟩
theorem yU(g:Mg)(h:Wk n m1 m2 m3 o)(w:n<=1073741824){x:al}(hx:It x){is:al}(hi:Mb is)(f q s:Bool){t:aa}(y:Sm t.A)(l:List al)(H:List aa)(e:Int)(F:List ab)(b:List am)(i:b.length<=n) :
  Ends (IG x is f q t s l H e F m1 m2 m3 o b) (Wn (n+1)):=by
 have z:Sm ([]:ev):=Nat.zero_le _;have c:Ends (some (e,m1,m2,m3,o,b)) (Wn (n+1)):=⟨_,rfl,h.le (by omega),Nat.le_succ_of_le i⟩;have v:Ends (call (C7 H e F m1 m2 m3 o b x.j.a x.g x.j.a x.j.G x.j.H x.x.u x.x.Value x.h.C x.h.a x.h.I x.h.J l) fun r=>some (r.1,r.2.1,r.2.2.1,r.2.2.2.1,r.2.2.2.2.1,r.2.2.2.2.2)) (Wn (n+1)) :=
  Ends.call (tQ h w H e F b i _ _ _ _ hx.p _ _ _ _ _ _ _ l) fun r k=>⟨_,rfl,k⟩
 unfold IG;refine Ends.bif (fun _=>?_) fun _=>Ends.bif (fun _=>c) fun _=>?_
 .rw[Hy,zf];refine Ends.call (Hn h w _ (k5 hx.m) H e F b) fun r k=>Ends.bif (fun _=>?_) fun _=>⟨_,rfl,k,Nat.le_succ_of_le i⟩;rw[FY _ _ _ _ _ _ (by omega),zf];exact⟨_,rfl,k,lenN i _⟩
 .rw[FR is hi,gU];refine Ends.bif (fun _=>?_) fun _=>Ends.bif (fun _=>c) fun _=>Ends.bif (fun _=>?_) fun _=>v
  .rw[Hy,zf];exact znR h w _ (k5 hx.m) H e F b b (Nat.le_succ_of_le i)
  .refine Ends.call (g _ _ _ y hi.d hx.z.d) fun r _=>Ends.bif (fun _=>v) fun _=>?_;refine Ends.call (Hn h w _ ⟨hx.m.fp,z,z⟩ H e F b) fun r k=>?_;rw[FY _ _ _ _ _ _ (by omega),zf];exact⟨_,rfl,k,lenN i _⟩
theorem xn(g:Mg)(h:Wk n m1 m2 m3 o)(q:n<=1073741824){x:al}(hx:It x)(s:aa){i:aa}(u:Sm i.A)(j:Bool)(l:List al)(H:List aa)(e:Int)(F:List ab)(b:List am)(d:b.length<=n) :
  Ends (IC x s i j l H e F m1 m2 m3 o b) (Wn (n+1)):=by
 obtain⟨N,v,y⟩:=h.w;have hi:=lL (Sz.good v) s;have a:Ends (some (e,m1,m2,m3,o,b)) (Wn (n+1)):=⟨_,rfl,h.le (by omega),Nat.le_succ_of_le d⟩;have c:Ends (call (mL (qV x) H e F m1 m2 m3 o b) fun r=>some (r.1,r.2.1,r.2.2.1,r.2.2.2.1,r.2.2.2.2,b)) (Wn (n+1)):=znR h q _ (k5 hx.m) H e F b b (Nat.le_succ_of_le d);unfold IC;rw[MP y,zf,FR _ hi];simp only[gU];rw[Hy,zf];refine Ends.jp (fun t=>Ends.bif (fun _=>Ends.bif (fun _=>a) fun _=>?_) fun _=>Ends.bif (fun _=>Ends.bif (fun _=>c) fun _=>a) fun _=>Ends.bif (fun _=>Ends.bif (fun _=>c) fun _=>Ends.bif (fun _=>?_) fun _=>a) fun _=>Ends.bif (fun _=>?_) fun _=>a) fun k f=>?_
 .refine Ends.jpI (fun p:List am=>p.length<=n+1) (fun p z=>?_) fun k f=>?_
  .exact znR h q _ ⟨hx.m.fp,hx.m.sp,hx.m.vp⟩ H e F p p z
  .refine Ends.bif (fun _=>?_) fun _=>f _ (Nat.le_succ_of_le d);rw[FY _ _ _ _ _ _ (by omega),zf];exact f _ (lenN d _)
 .rw[FY _ _ _ _ _ _ (by omega),zf];exact⟨_,rfl,h.le (by omega),lenN d _⟩
 .exact Ends.call (yU g h q hx hi _ _ _ u l H e F b d) fun r B=>⟨_,rfl,B⟩
 .exact Ends.bif (fun _=>f _) fun _=>Ends.bif (fun _=>f _) fun _=>f _
end
def gK(h:aa):ev×aq:=(h.r,rm h)
theorem vU(a b:aa):jn a b=gR a.r a.g a.a b.r b.g b.a:=by
 unfold jn gR;rw[ld,ld];by_cases h:fb a.r b.r=0
 .rw[decide_eq_true h,if_neg (fun g=>g h)];by_cases c:eH a.g=eH b.g
  .rw[if_neg (by omega),decide_eq_true (by omega:eH a.g-eH b.g=0)];rfl
  .rw[if_pos (by omega),decide_eq_false (by omega)];show eH a.g-eH b.g=_;omega
 .rw[decide_eq_false h,if_pos h];rfl
theorem vT{a b:aa}(h:gK a=gK b):jn a b=0:=by
 unfold gK rm at h;simp only[Prod.mk.injEq,aq.mk.injEq]at h;obtain⟨c,e,d⟩:=h;unfold jn;rw[c,d,HC,decide_eq_true (by omega:eH a.g-eH b.g=0),HC];rfl
theorem Ai{a b c:aa}(e:jn a b<0)(f:jn b c<0):jn a c<0:=by
 rw[vU]at *;have h:=Nb (Int.le_of_lt e) (Int.le_of_lt f);rcases Int.lt_or_eq_of_le h with d|d
 .exact d
 .obtain⟨i,j,k⟩:=Pb d;have l:=BE a.r a.g a.a b.r b.g b.a;have:gR b.r b.g b.a a.r a.g a.a=gR b.r b.g b.a c.r c.g c.a:=by unfold gR;rw[i,j,k]
  omega
theorem O0{α:Type}(e:Nat->α->Int):∀(l:List α) (i:Nat),iq e i l=0->∀j (h:j<l.length),e (i+j) l[j]=0
 |[],i,_,j,h=>by cases h
 |x::l,i,a,j,h=>by
  unfold iq at a;by_cases b:e i x=0
  .rw[decide_eq_true b,Bool.not_true,cond_false]at a;cases j with
   |zero=>exact b
   |succ j =>
    have:=O0 e l (i+1) a j (by simpa using h);rw[show i+(j+1)=i+1+j by omega];exact this
  .rw[decide_eq_false b]at a;exact absurd a b
structure KR(k:aj):Prop where
 n:k.q.length<=5000
 nd:(k.q.map gK).Nodup
theorem CR{k:aj}(h:jG k=0):KR k:=by
 unfold jG at h;by_cases m:5000<(k.q.length:Int)
 .rw[decide_eq_true m]at h;cases h
 rw[decide_eq_false m,cond_false]at h;by_cases f:iq (iu k.q) 0 k.q=0
 .have b:=O0 _ _ _ f
  have c:∀j (a:j+1<k.q.length),jn k.q[j] k.q[j+1]<0:=by
   intro j a;have:=b (j+1) a;unfold iu at this;by_cases g:xU k.q[j+1]=0
   .rw[decide_eq_true g,Bool.not_true,cond_false]at this;rw[show 0+(j+1)-1=j by omega,getD_eq_getElem?_getD,getElem?_eq_getElem (by omega:j<k.q.length),Option.getD_some,decide_eq_true (by omega),Bool.true_and]at this;by_cases n:0<=jn k.q[j] k.q[j+1]
    .rw[decide_eq_true n]at this;cases this
    .omega
   .rw[decide_eq_false g]at this;exact absurd this g
  have l:∀d i (a:i+d+1<k.q.length),jn k.q[i] k.q[i+d+1]<0:=by
   intro d;induction d with
   |zero=>intro i a;exact c i a
   |succ d o=>intro i a;exact Ai (o i (by omega)) (c (i+d+1) a)
  refine⟨by omega,?_⟩;rw[List.Nodup,pairwise_map,pairwise_iff_getElem];intro i j hi a p e;have:=l (j-i-1) i (by omega);have r:i+(j-i-1)+1=j:=by omega
  simp only[r]at this;rw[vT e]at this;omega
 .rw[decide_eq_false f]at h;exact absurd h f
theorem vC(o:ev)(x y:al):jR (mD o x) (mD o y)=decide (rl x=rl y):=by
 show(decide (eH x.g=eH y.g)&&decide (uo x=uo y))=decide ((⟨eH x.g+1,uo x⟩:aq)=⟨eH y.g+1,uo y⟩);rw[Bool.eq_iff_iff];simp only[Bool.and_eq_true,decide_eq_true_eq,aq.mk.injEq];constructor
 .rintro⟨a,b⟩;exact⟨by omega,b⟩
 .rintro⟨a,b⟩;exact⟨by omega,b⟩
theorem D9(o:ev){x:al}(hx:It x)(a:Sm x.h.C):qC (mD o x):=by
 refine⟨?_,?_⟩
 .show Sm (uo x);unfold uo;cases decide (x.g=5) <;> cases decide (x.g=6) <;> first|exact hx.m.fp|exact hx.m.sp|exact a
 .show Sm (bif decide (x.g=3)then x.j.G else []);cases decide (x.g=3) <;> first|exact hx.z.d|exact Nat.zero_le _
structure yf(h:aa):Prop extends qC h where
 d:h.A.length<=65536
theorem A8{x:al}(h:sD x=0)(b:x.g=3):x.j.G.length<=65536:=by
 have c:sf x=⟨1,x.j,mH,iC⟩:=by unfold sf;rw[b];rfl
 unfold sD at h;rw[c,show mI ⟨1,x.j,mH,iC⟩=jb x.j from rfl,b,sB (by decide)]at h;by_cases d:x.j.G.length<=65536
 .exact d
 .have e:jb x.j≠0:=by
   unfold jb;rw[decide_eq_true (show(65536:Int)<x.j.G.length by omega),cond_true];cases fS x.j.a <;> decide
  rw[decide_eq_false e]at h;exact absurd h e
theorem vq(o:ev){x:al}(hx:It x)(a:Sm x.h.C)(b:sD x=0):yf (mD o x):=by
 refine⟨D9 o hx a,?_⟩;show List.length (bif decide (x.g=3)then x.j.G else [])<=65536;cases c:decide (x.g=3)with
 |true=>exact A8 b (of_decide_eq_true c)
 |false=>exact Nat.zero_le _
theorem qp(p:ev):Ends (HN p) fun _=>True:=by unfold HN;rw[MQ _ _ (by decide),zf];exact⟨_,rfl,trivial⟩
theorem wy(k:aj)(o:ev)(l:List al)(H:∀x∈l,It x):Ends (H7 k o l) fun e=>e=0->(l.map rl).Nodup/\l.length<=5000/\∀x∈l,sD x=0:=by
 unfold H7;refine Ends.bif (fun _=>⟨4,rfl,fun h=>absurd h (by decide)⟩) fun I=>?_;have I:=of_decide_eq_false I;rw[eJ];refine pm (fun i r _=>l=l.take i++r/\i+r.length=l.length/\((l.take i).map rl).Nodup/\∀x∈l.take i,sD x=0) (fun i s h=>?_) (fun i x r s nx h w=>?_) l 0 () ⟨by simp,by simp,by simp,by simp⟩
 .obtain⟨n,A,B,C⟩:=h;rw[append_nil]at n;exact⟨0,rfl,fun _=>⟨by rw[n];exact B,by omega,by rw[n];exact C⟩⟩
 .obtain⟨n,A,B,C⟩:=h;have hx:x∈l:=by rw[n];simp
  have u:=H x hx;simp only[eJ];rw[OW _ u.m,zf];refine Ends.bif (fun D=>⟨_,rfl,fun h=>absurd h (by simpa using D)⟩) fun p=>?_;have p:sD x=0:=by simpa using p
  rw[CI _ _ u.z,zf];have hi:i<l.length:=by simp only[length_cons]at A;omega
  have next:(∀y∈l.take i,rl y≠rl x)->Ends (nx ()) fun e=>e=0->(l.map rl).Nodup/\l.length<=5000/\∀x∈l,sD x=0:=by
   intro t;have E:l[i]?=some x:=by rw[n,getElem?_append_right (by rw[length_take];omega),length_take];simp[show i-min i l.length=0 by omega]
   have F:l.take (i+1)=l.take i++[x]:=by rw[take_add_one,E];rfl
   refine w () ⟨?_,by simp only[length_cons]at A;omega,?_,fun y c=>?_⟩
   .rw[F,append_assoc];exact n
   .rw[F,map_append,nodup_append];refine⟨B,by simp,fun a K b J e=>?_⟩;obtain⟨y,c,rfl⟩:=mem_map.1 K;simp only[map_cons,map_nil,mem_singleton]at J;exact t y c (e.trans J)
   .rw[F]at c;rcases mem_append.1 c with c|c
    .exact C y c
    .rw[mem_singleton.1 c];exact p
  rw[zg (by omega)];refine pm (fun j v _=>(∀y∈v,y∈l)/\∀y∈l.take i,y∈v∨rl y≠rl x) (fun j s h=>?_) (fun j y v s G h d=>?_) (l.take i) 0 () ⟨fun y c=>mem_of_mem_take c,fun y c=>.inl c⟩
  .have t:∀y∈l.take i,rl y≠rl x:=fun y c=>(h.2 y c).resolve_left (by simp);refine pm (fun _ _ _=>True) (fun j s _=>?_) (fun j y v s G _ d=>?_) k.q 0 () trivial
   .rw[uI,zf]
    have ol:∀b:Bool,Ends (bif decide (eH x.g=0)&&(decide (x.j.a=([115,116,97,103,101]:ev))||b)then some 17 else nx ()) fun e=>e=0->(l.map rl).Nodup/\l.length<=5000/\∀x∈l,sD x=0:=fun b =>
     Ends.bif (fun _=>⟨17,rfl,fun h=>absurd h (by decide)⟩) fun _=>next t
    cases (decide (eH x.g=0)&&!(decide (x.j.a=([115,116,97,103,101]:ev))))with
    |true=>rw[yH];exact Ends.call (qp _) fun b _=>ol b
    |false=>rw[C1];exact ol false
   .rw[CJ,gU];exact Ends.bif (fun _=>⟨11,rfl,fun h=>absurd h (by decide)⟩) fun _=>d () trivial
  .have c:y∈l:=h.1 y (mem_cons_self ..);rw[CI _ _ (H y c).z,zf,CJ,zf,vC];refine Ends.bif (fun _=>⟨6,rfl,fun h=>absurd h (by decide)⟩) fun D=>d () ⟨fun z hz=>h.1 z (mem_cons_of_mem _ hz),fun z hz=>?_⟩;rcases h.2 z hz with f|f
   .rcases mem_cons.1 f with e|f
    .rw[e];exact .inr (of_decide_eq_false D)
    .exact .inl f
   .exact .inr f
structure KO(k:aj):Prop where
 e:jG k=0
 k:∀h∈k.q,yf h
theorem KO.s{k:aj}(h:KO k):∀x∈k.q,qC x:=fun x hx=>(h.k x hx).toqC
def RO(r:ap×Int):Prop:=r.2=0->(∀c∈r.1.K,kL c)/\KO r.1.R
theorem uA{r:ap}{e:Int}(h:decide (e=0)=false):RO (r,e):=fun g=>absurd g (of_decide_eq_false h)
theorem vo{l:List aa}(d:(l.map gK).Nodup):De l=some (m8 l):=by
 unfold De;refine Np ⟨m8 l,HJ l,m7 l⟩ fun j ⟨c,e⟩=>congrArg some ?_;refine List.Perm.eq_of_pairwise (le:=leH) (fun a b f g h i=>?_) e (m7 l) (c.trans (HJ l).symm);exact wo d (c.mem_iff.1 f) ((HJ l).mem_iff.1 g) h i
structure Oh(ow:ev)(l:List aa):Prop where
 o:∀h∈l,h.r=ow/\yf h
 nd:(l.map gK).Nodup
 n:l.length<=5000
theorem Am(a:ev):Oh a []:=⟨by simp,by simp,by simp⟩
theorem rA{c:ev}{l H:List aa}(h:Oh c l)(d:KO ⟨H⟩):((l++H.filter fun h=>!decide (h.r=c)).map gK).Nodup/\(∀x∈l++H.filter fun h=>!decide (h.r=c),yf x):=by
 have g:=CR d.e;refine⟨?_,fun x hx=>?_⟩
 .rw[map_append,nodup_append];refine⟨h.nd,List.Nodup.sublist (List.Sublist.map _ filter_sublist) g.nd,fun a i b j e=>?_⟩;obtain⟨x,hx,rfl⟩:=mem_map.1 i;obtain⟨y,m,rfl⟩:=mem_map.1 j;have n:=(h.o x hx).1;have f:=(mem_filter.1 m).2;have p:x.r=y.r:=congrArg Prod.fst e;rw[<-p,n]at f;simp at f
 .rcases mem_append.1 hx with hx|hx
  .exact(h.o x hx).2
  .exact d.k x (mem_filter.1 hx).1
section
variable {o:List ai}
theorem rK(g:∀c∈o,kL c){l:List aa}(h:(l.map gK).Nodup)(i:∀x∈l,yf x)(e:List am) :
  Ends (call (De l) fun a =>
  call (pt (aj.mk a)) fun b =>
  bif !decide (b=0)then
   some ((ap.mk [] (aj.mk []) []),b,o,e,a)
  else
  some ((ap.mk o (aj.mk a) e),0,o,e,a)) fun r:ap×Int×List ai×List am×List aa=>RO (r.1,r.2.1):=by
 rw[vo h,zf];have d:∀x∈m8 l,yf x:=fun x hx=>i x ((HJ l).mem_iff.1 hx);rw[BI ⟨m8 l⟩ fun x hx=>(d x hx).toqC,zf];refine Ends.bif (fun f=>⟨_,rfl,uA (by simpa using f)⟩) fun f=>⟨_,rfl,fun _=>⟨g,?_,d⟩⟩;simpa using f
theorem qx{d:ev}{H b:List aa}(f:KO ⟨H⟩)(a:Oh d b)(j:∀c∈o,kL c)(e:Int)(F:List ab)(l:W1)(m:W2)(p:W3)(g:List am) :
  Ends (IK d H e F l m p o g b) fun r=>RO (r.1,r.2.1):=by
 have q:=(CR f.e).n;have s:=a.n;simp only at q;unfold IK;refine Ends.bif (fun t=>⟨_,rfl,uA (by simpa using t)⟩) fun _=>?_;rw[eJ];rw[M5 (fun h:aa=>!decide (h.r=d)) id 20000 (fun i x o nx k w=>by rw[zg (by simp only[length_append,length_cons,length_nil];omega)];rfl) H 0 b (by omega),map_id];obtain⟨u,v⟩:=rA a f;exact rK j u v g
theorem qw{a:ev}{H:List aa}(b:KO ⟨H⟩)(f:∀c∈o,kL c)(e:Int)(F:List ab)(g:W1)(j:W2)(l:W3)(d:List am) :
  Ends (IL a H e F g j l o d) fun r=>RO (r.1,r.2.1):=by
 have m:=(CR b.e).n;simp only at m;unfold IL;refine Ends.bif (fun p=>⟨_,rfl,uA (by simpa using p)⟩) fun _=>?_;rw[eJ];rw[M5 (fun h:aa=>!decide (h.r=a)) id 20000 (fun i x o nx k t=>by rw[zg (by simp only[length_append,length_cons,length_nil];omega)];rfl) H 0 [] (by simp only[length_nil];omega),map_id];obtain⟨q,s⟩:=rA (Am a) b;exact rK f q s d
end
theorem ww{A:Type}(p:A->Bool)(l:List A):wx p l=-1∨∃i:Nat,∃h:i<l.length,wx p l=i:=by
 unfold wx;cases h:l.findIdx? p with
 |none=>exact .inl rfl
 |some i =>
  obtain⟨hi,_⟩:=findIdx?_eq_some_iff_getElem.1 h;exact .inr ⟨i,hi,rfl⟩
theorem Ef{H:List aa}(d:∀h∈H,qC h)(x:aa)(c:ev):Ends (H5 x H c) fun r=>Sm r.1.A:=by
 unfold H5;have e:NY H c x=xP (fun h=>IE h c x) H:=rfl;rw[e,BG (pr:=fun h=>IE h c x) (p:=fun h=>(decide (h.r=c)&&decide (h.g=x.g))&&decide (h.a=x.a)) H (fun h _=>rfl),zf];rcases ww (fun h:aa=>(decide (h.r=c)&&decide (h.g=x.g))&&decide (h.a=x.a)) H with h|⟨i,hi,h⟩
 .rw[h];exact⟨_,rfl,Nat.zero_le _⟩
 .rw[h,decide_eq_false (by omega:¬ (i:Int)<0),cond_false];rw[mJ hi];exact⟨_,rfl,(d _ (getElem_mem _)).b⟩
theorem QV(s:List aa)(f:aa):Ends (zX s f) fun _=>True:=by unfold zX;have e:NW s f=xP (fun h=>H4 h f) s:=rfl;rw[e,BG (p:=fun h=>jR h f) s (fun h _=>by unfold H4;rw[CJ];rfl),zf];exact⟨_,rfl,trivial⟩
theorem QS(s:List al)(f:aa):Ends (zT s f) fun _=>True:=by unfold zT;have e:N1 s f=xP (fun h=>H6 h f) s:=rfl;rw[e,BG (p:=fun h=>decide (h.g=f.g)&&decide ((bif decide (h.g=f.g)then uo h else [])=f.a)) s (fun h _=>by unfold H6;rw[OH,gU]),zf];exact⟨_,rfl,trivial⟩
theorem QR(s:List aa)(f:ev):Ends (zV s f) fun _=>True:=by unfold zV;have e:NZ s f=xP (fun h=>IF h f) s:=rfl;rw[e,BG (pr:=fun h=>IF h f) (p:=fun h=>decide (h.r=f)) s (fun h _=>rfl),zf];exact⟨_,rfl,trivial⟩
theorem QQ(s:List aa)(f:ev):Ends (zU s f) fun _=>True:=by unfold zU;have e:N0 s f=xP (fun h=>Ip h f) s:=rfl;rw[e,BG (pr:=fun h=>Ip h f) (p:=fun h=>decide (h.r=f)) s (fun h _=>rfl),zf];exact⟨_,rfl,trivial⟩
theorem Ends.callG{A Z:Type}{g:Bool}{a:Option A}{d:A}{k:A->Option Z}{P:Z->Prop}(h:Ends a fun _=>True)(b:∀x,Ends (k x) P):Ends (Vc.callG g a d k) P:=by
 cases g with
 |true=>rw[yH];exact Ends.call h fun x _=>b x
 |false=>rw[C1];exact b d
theorem w6{M:ak}(u:Good M){k:aj}(j:KO k)(z:ev)(l:au):Ends (HM M k z l) RO:=by
 have K:=(CR j.e).n;unfold HM;rw[H3 _ u.fit,zf,BI _ j.s,zf,yb,zf,uf,zf,FM,zf];refine Ends.jp (fun e=>Ends.bif (fun A=>⟨_,rfl,uA (by simpa using A)⟩) fun _=>?_) fun B g=>Ends.callG (QR _ _) fun b=>Ends.bif (fun _=>g _) fun _=>g _;obtain⟨C,D,E,F,G⟩:=HR u;rw[F,zf];refine Ends.jpI (fun s:W1×W2×W3×Int×List ai×List am=>Wk 5000 s.1 s.2.1 s.2.2.1 s.2.2.2.2.1) (fun s H=>?_) fun B g=>?_
 .obtain⟨a,b,c,d,e,f⟩:=s;exact Ends.call (qw (by exact⟨j.e,j.k⟩) H.c d _ a b c f) fun r t=>⟨_,rfl,t⟩
 .refine pm (fun i r s=>(∀h∈r,h∈k.q)/\i+r.length=k.q.length/\Wk i s.1 s.2.1 s.2.2.1 s.2.2.2.2.1/\s.2.2.2.2.2.length<=i) (fun i s h=>?_) (fun i x r s nx h m=>?_) k.q 0 (C,D,E,0,[],[]) ⟨fun _ h=>h,by omega,⟨⟨M,u,G⟩,Nat.le_refl _,by simp⟩,Nat.le_refl _⟩
  .obtain⟨a,b,c,d,e,f⟩:=s;exact g _ (h.2.2.1.le (by have:=h.2.1;simp only[length_nil]at this;omega))
  .obtain⟨a,b,c,d,e,f⟩:=s;obtain⟨v,I,w,y⟩:=h;simp only[length_cons]at I;have t:=fun h J=>v h (mem_cons_of_mem x J);refine Ends.bif (fun _=>?_) fun _=>m _ ⟨t,by omega,w.le (by omega),Nat.le_succ_of_le y⟩;exact Ends.call (r8 w (by omega) x (j.s x (v x (mem_cons_self ..))).p l _ d _ f y) fun r o=>m _ ⟨t,by omega,o.1,o.2⟩
structure Mh(x:al):Prop extends It x where
 v:Sm x.h.C
theorem s8(c:ev){l:List al}(d:∀x∈l,Mh x)(f:(l.map rl).Nodup)(g:l.length<=5000/\∀x∈l,sD x=0):Oh c (l.map (mD c)):=by
 refine⟨fun h i=>?_,?_,by simpa using g.1⟩
 .obtain⟨x,hx,rfl⟩:=mem_map.1 i;exact⟨rfl,vq c (d x hx).toIt (d x hx).v (g.2 x hx)⟩
 .rw[map_map];rw[List.Nodup,pairwise_map]at f|-;refine List.Pairwise.imp (fun {a b} h e=>h ?_) f;exact congrArg Prod.snd e
theorem tP(g:Mg){M:ak}(J:Good M){k:aj}(F:KO k)(A:ev)(l:List al)(K:∀x∈l,Mh x)(G:au):Ends (GZ M k A l G) RO:=by
 have hn:=(CR F.e).n;unfold GZ;rw[H3 _ J.fit,zf,BI _ F.s,zf,yb,zf,uf,zf,FM,zf];refine Ends.jpI (fun e=>e=0->(l.map rl).Nodup/\l.length<=5000/\∀x∈l,sD x=0) (fun e U=>Ends.bif (fun C=>⟨_,rfl,uA (by simpa using C)⟩) fun C=>?_) fun L j=>Ends.bif (fun _=>Ends.call (wy k A l fun x hx=>(K x hx).toIt) fun e C=>j e C) fun C=>j _ fun h=>absurd h (of_decide_eq_false C);obtain⟨N,V,H⟩:=U (by simpa using C);obtain⟨W,X,Y,Z,S⟩:=HR J;rw[Z,zf];refine Ends.jp (fun _=>?_) fun L j=>?_
 .refine Ends.jpI (fun s:W1×W2×W3×Int×List ai×List am=>Wk 5000 s.1 s.2.1 s.2.2.1 s.2.2.2.2.1/\s.2.2.2.2.2.length<=5000) (fun s O=>?_) fun L j=>?_
  .obtain⟨a,b,c,d,e,f⟩:=s;obtain⟨D,t⟩:=O;refine Ends.jpI (fun s:W1×W2×W3×Int×List ai×List am×List aa=>Wk 10000 s.1 s.2.1 s.2.2.1 s.2.2.2.2.1/\s.2.2.2.2.2.2=l.map (mD A)) (fun s O=>?_) fun L j=>?_
   .obtain⟨a,b,c,d,e,f,P⟩:=s;obtain⟨D,t⟩:=O;simp only at t;refine Ends.call (qx (by exact⟨F.e,F.k⟩) (by rw[t];exact s8 A K N ⟨V,H⟩) D.c d _ a b c f) fun r o=>⟨_,rfl,o⟩
   .refine pm (fun i r s=>l=l.take i++r/\i+r.length=l.length/\s.2.2.2.2.2.2=(l.take i).map (mD A)/\Wk (5000+i) s.1 s.2.1 s.2.2.1 s.2.2.2.2.1/\s.2.2.2.2.2.1.length<=5000+i) (fun i s h=>?_) (fun i x r s nx h m=>?_) l 0 (a,b,c,d,e,f,[]) ⟨by simp,by omega,by simp,D,t⟩
    .obtain⟨a,b,c,d,e,f,P⟩:=s;obtain⟨u,E,B,v,H⟩:=h;simp only[length_nil]at E;rw[append_nil]at u;refine j _ ⟨v.le (by omega),?_⟩;rw[B,<-u]
    .obtain⟨a,b,c,d,e,f,P⟩:=s;obtain⟨u,E,B,v,H⟩:=h;simp only[length_cons]at E;have hx:x∈l:=by rw[u];simp
     have w:=K x hx;have Q:l[i]?=some x:=by rw[u,getElem?_append_right (by rw[length_take];omega),length_take];simp[show i-min i l.length=0 by omega]
     have T:l.take (i+1)=l.take i++[x]:=by rw[take_add_one,Q];rfl
     simp only at B v H|-;rw[CI _ _ w.z,zf,zg (by rw[B];simp only[length_append,length_map,length_take,length_cons,length_nil];omega)];refine Ends.call (Ef F.s _ A) fun R ho=>?_;refine Ends.call (xn g v (by omega) w.toIt (mD A x) ho R.2 l k.q d _ f H) fun r o=>?_;refine m _ ⟨by rw[T,append_assoc];exact u,by omega,?_,o.1,o.2⟩;show P++[mD A x]=_;rw[B,T,map_append];rfl
  .refine pm (fun i r s=>(∀h∈r,h∈k.q)/\i+r.length=k.q.length/\Wk i s.1 s.2.1 s.2.2.1 s.2.2.2.2.1/\s.2.2.2.2.2.length<=i) (fun i s h=>?_) (fun i x r s nx h m=>?_) k.q 0 (W,X,Y,0,[],[]) ⟨fun _ h=>h,by omega,⟨⟨M,J,S⟩,Nat.le_refl _,by simp⟩,Nat.le_refl _⟩
   .obtain⟨a,b,c,d,e,f⟩:=s;have E:=h.2.1;have v:=h.2.2.2;simp only[length_nil]at E v;exact j _ ⟨h.2.2.1.le (by omega),by simp only;omega⟩
   .obtain⟨a,b,c,d,e,f⟩:=s;obtain⟨u,E,B,v⟩:=h;simp only[length_cons]at E;have o:=fun h hh=>u h (mem_cons_of_mem x hh);refine Ends.callG (QS _ _) fun bb=>Ends.bif (fun _=>?_) fun _=>m _ ⟨o,by omega,B.le (by omega),Nat.le_succ_of_le v⟩;exact Ends.call (r8 B (by omega) x (F.s x (u x (mem_cons_self ..))).p G _ d _ f v) fun r I=>m _ ⟨o,by omega,I.1,I.2⟩
 .refine pm (fun _ r _=>∀x∈r,x∈l) (fun i s h=>j _) (fun i x r s nx h m=>?_) l 0 () fun _ h=>h;have w:=K x (h x (mem_cons_self ..));have o:=fun y hy=>h y (mem_cons_of_mem x hy);rw[CI _ _ w.z,zf];refine Ends.bif (fun _=>m _ o) fun _=>?_;rw[jX S J,zf];exact Ends.callG (QV _ _) fun bb=>Ends.bif (fun _=>⟨_,rfl,uA (by decide)⟩) fun _=>m _ o
theorem Qw(H:List aa)(b:ev)(x:aa):IZ H b x=some (wx (fun h=>(decide (h.r=b)&&decide (h.g=x.g))&&decide (h.a=x.a)) H):=by have e:IZ H b x=xP (fun h=>Iq h b x) H:=rfl;rw[e,BG (pr:=fun h=>Iq h b x) (p:=fun h=>(decide (h.r=b)&&decide (h.g=x.g))&&decide (h.a=x.a)) H (fun h _=>rfl)]
theorem p4{M:ak}(v:Good M){k:aj}(D:KO k)(u:ev)(l:List al)(G:∀x∈l,Mh x)(T:l.length<=1073741824):Ends (Hl M k u l) RO:=by
 unfold Hl;rw[H3 _ v.fit,zf,BI _ D.s,zf,yb,zf,uf,zf,FM,zf];refine Ends.jp (fun e=>Ends.bif (fun o=>⟨_,rfl,uA (by simpa using o)⟩) fun _=>?_) fun H n=>Ends.callG (QQ _ _) fun b=>Ends.bif (fun _=>n _) fun _=>n _;obtain⟨I,J,K,L,O⟩:=HR v;rw[L,zf];refine Ends.jpI (fun s:W1×W2×W3×Int×List ai=>Wk 1073741824 s.1 s.2.1 s.2.2.1 s.2.2.2.2) (fun s P=>?_) fun H n=>?_
 .obtain⟨a,b,c,d,e⟩:=s;exact Ends.bif (fun o=>⟨_,rfl,uA (by simpa using o)⟩) fun o=>⟨_,rfl,fun _=>⟨P.c,D⟩⟩
 .refine pm (fun i r s=>(∀x∈r,x∈l)/\i+r.length=l.length/\Wk i s.1 s.2.1 s.2.2.1 s.2.2.2.2) (fun i s h=>?_) (fun i x r s nx h p=>?_) l 0 (I,J,K,0,[]) ⟨fun _ h=>h,by omega,⟨⟨M,v,O⟩,Nat.le_refl _,by simp⟩⟩
  .obtain⟨a,b,c,d,e⟩:=s;have y:=h.2.1;simp only[length_nil]at y;exact n _ (h.2.2.le (by omega))
  .obtain⟨a,b,c,d,e⟩:=s;obtain⟨E,y,A⟩:=h;simp only[length_cons]at y;have F:=fun h Q=>E h (mem_cons_of_mem x Q);have f:=G x (E x (mem_cons_self ..));have B:=A;obtain⟨N,R,t⟩:=B.w;simp only at t|-;rw[OW _ f.m,zf];refine Ends.bif (fun o=>⟨_,rfl,uA (by simpa using o)⟩) fun _=>?_;rw[CI _ _ f.z,zf,Qw,zf];rcases ww (fun h:aa=>(decide (h.r=u)&&decide (h.g=(mD u x).g))&&decide (h.a=(mD u x).a)) k.q with h|⟨j,S,h⟩
   .rw[h];exact⟨_,rfl,uA (by decide)⟩
   .rw[h,decide_eq_false (by omega:¬ (j:Int)<0),cond_false,mJ S];refine Ends.bif (fun _=>⟨_,rfl,uA (by decide)⟩) fun _=>?_;rw[MP t,zf,show F1 x.g=some (((decide (x.g=1))||(decide (x.g=2)))||(decide (x.g=6)))from rfl,gU,FR _ (lL (Sz.good R) _),gU];refine Ends.bif (fun _=>?_) fun _=>p _ ⟨F,by omega,A.le (by omega)⟩;rw[Hy,zf];exact Ends.call (uU A (by omega) _ ⟨f.m.fp,f.m.sp,f.m.vp⟩ k.q d _) fun r C=>p _ ⟨F,by omega,C⟩
def lZ(a:ev)(x h:aa):Bool:=decide (h.r=a)&&jR h x
theorem Ma(h:aa)(b:ev)(x:aa):BO h b x.r x.g x.a x.y x.A=some (lZ b x h):=by
 unfold BO lZ;rw[CJ,gU];cases decide (h.r=b) <;> rfl
theorem Q9(H:List aa)(c:H.length<=1073741824)(b:ev)(x:aa):zO H b x.r x.g x.a x.y x.A=some (wx (lZ b x) H):=by have e:zO H b x.r x.g x.a x.y x.A=wP (aa.mk [] 0 [] [] []) (fun h=>BO h b x.r x.g x.a x.y x.A) H:=rfl;rw[e,wO (p:=lZ b x) H c fun h _=>Ma h b x]
theorem Q8(H:List aa)(c:H.length<=1073741824)(b:ev)(x:aa):Ends (zZ H b x.r x.g x.a x.y x.A) fun r=>List.take r.1 r.2=H.filter fun h=>!lZ b x h:=by
 have e:zZ H b x.r x.g x.a x.y x.A=Fp Prod.mk (aa.mk [] 0 [] [] []) (fun h=>BO h b x.r x.g x.a x.y x.A) (zO H b x.r x.g x.a x.y x.A) H:=rfl;rw[e,Q9 H c];obtain⟨z,f,i,o,rfl,j⟩:=A5 Prod.mk (d:=aa.mk [] 0 [] [] []) (p:=lZ b x) H c fun h _=>Ma h b x;exact⟨_,f,j⟩
def RA(r:aj×Int):Prop:=r.2=0->KO r.1
theorem Cq{r:aj}{e:Int}(h:decide (e=0)=false):RA (r,e):=fun g=>absurd g (of_decide_eq_false h)
theorem tW{M:ak}(E:Good M){k:aj}(F:KO k)(c:ev)(l:List al)(P:∀x∈l,Mh x)(hL:l.length<=536870912):Ends (GY M k c l) RA:=by
 have Q:=CR F.e;have U:=Q.n;unfold GY;rw[H3 _ E.fit,zf,BI _ F.s,zf,yb,zf,uf,zf,FM,zf];refine Ends.bif (fun o=>⟨_,rfl,Cq (by simpa using o)⟩) fun _=>?_;obtain⟨w1,w2,w3,V,W⟩:=HR E;rw[V,zf];have G:IX k.q=some k.q:=by
  unfold IX;refine Np ⟨false,by simp⟩ fun b C=>?_;cases b with
  |true=>rw[C rfl];rfl
  |false=>rw[cond_false,zg (by simp only[nil_append];omega)];rfl
 rw[G,zf];refine Ends.jpI (fun s:List aa=>(s.map gK).Nodup/\∀h∈s,yf h) (fun s R=>?_) fun X p=>?_
 .have A:∀x∈m8 s,yf x:=fun x hx=>R.2 x ((HJ s).mem_iff.1 hx);rw[vo R.1,zf,BI ⟨m8 s⟩ fun x hx=>(A x hx).toqC,zf];exact Ends.bif (fun o=>⟨_,rfl,Cq (by simpa using o)⟩) fun o=>⟨_,rfl,fun _=>⟨by simpa using o,A⟩⟩
 .refine pm (fun i r s=>(∀x∈r,x∈l)/\i+r.length=l.length/\((s.map gK).Nodup/\∀h∈s,yf h)/\s.length<=5000+i) (fun i s h=>p _ h.2.2.1) (fun i x r s nx h H=>?_) l 0 k.q ⟨fun _ h=>h,by omega,⟨Q.nd,F.k⟩,by omega⟩;obtain⟨S,Y,⟨Z,h4⟩,h5⟩:=h;simp only[length_cons]at Y;have hr:=fun h t=>S h (mem_cons_of_mem x t);have f:=P x (S x (mem_cons_self ..));refine Ends.jpI (fun D:List aa=>((D.map gK).Nodup/\∀h∈D,yf h)/\D.length<=5000+(i+1)) (fun D B=>H _ ⟨hr,by omega,B.1,B.2⟩) fun X p=>?_;rw[OW _ f.m,zf];refine Ends.bif (fun o=>⟨_,rfl,Cq (by simpa using o)⟩) fun u=>?_;have u:sD x=0:=by simpa using u
  rw[CI _ _ f.z,zf];refine Ends.jp (fun _=>Ends.jp (fun _=>?_) fun k2 w=>?_) fun k2 w=>?_
  .rw[MP W,zf];refine Ends.bif (fun _=>⟨_,rfl,Cq (by decide)⟩) fun _=>?_;rw[show F1 x.g=some (((decide (x.g=1))||(decide (x.g=2)))||(decide (x.g=6)))from rfl,zf,FR _ (lL (Sz.good E) _),gU];refine Ends.bif (fun _=>⟨_,rfl,Cq (by decide)⟩) fun _=>?_;refine Ends.call (Q8 s (by omega) c (mD c x)) fun r I=>?_;have hle:=length_filter_le (fun h=>!lZ c (mD c x) h) s;rw[I,zg (by simp only[length_append,length_cons,length_nil];omega)];refine p _ ⟨⟨?_,fun h t=>?_⟩,?_⟩
   .rw[map_append,nodup_append];refine⟨List.Nodup.sublist (List.Sublist.map _ filter_sublist) Z,by simp,fun a ha b C e=>?_⟩;obtain⟨y,J,rfl⟩:=mem_map.1 ha;simp only[map_cons,map_nil,mem_singleton]at C;have T:=(mem_filter.1 J).2;have K:gK y=gK (mD c x):=e.trans C;unfold gK at K;simp only[Prod.mk.injEq]at K;obtain⟨q1,L⟩:=K;unfold rm at L;rw[aq.mk.injEq]at L
    have:lZ c (mD c x) y=true:=by
     unfold lZ jR;rw[decide_eq_true (show y.r=c from q1),decide_eq_true (show eH y.g=eH (mD c x).g by omega),decide_eq_true L.2];rfl
    rw[this]at T;cases T
   .rcases mem_append.1 t with t|t
    .exact h4 h (mem_filter.1 t).1
    .rw[mem_singleton.1 t];exact vq c f.toIt f.v u
   .simp only[length_append,length_cons,length_nil];omega
  .refine pm (fun _ _ _=>True) (fun j s _=>w _) (fun j y N s O _ d=>?_) k.q 0 () trivial;rw[CJ,gU];exact Ends.bif (fun _=>⟨_,rfl,Cq (by decide)⟩) fun _=>d () trivial
  .rw[zg (by omega)];refine pm (fun _ N _=>∀y∈N,y∈l) (fun j s _=>w _) (fun j y N s O h d=>?_) (l.take i) 0 () fun y J=>mem_of_mem_take J;rw[CI _ _ (P y (h y (mem_cons_self ..))).z,zf,CJ,zf];exact Ends.bif (fun _=>⟨_,rfl,Cq (by decide)⟩) fun _=>d () fun z hz=>h z (mem_cons_of_mem _ hz)
structure Br(b:ax):Prop where
 i:∀x∈b.T,Mh x
 n:b.T.length<=536870912
 c:∀c∈b.K,kL c
theorem Ew:KO ⟨[]⟩:=⟨rfl,by simp⟩
theorem vi(g:Mg){M:ak}(P:Good M)(l:List ax)(Q:∀b∈l,Br b):Ends (HL M l) fun r=>Good r.1/\KO r.2:=by
 unfold HL;refine Ends.jpI (fun s:List ab×List ae×List ab×List ah×List aa=>Good ⟨s.1,s.2.1,s.2.2.1,s.2.2.2.1⟩/\KO ⟨s.2.2.2.2⟩) (fun s G=>?_) fun kk J=>?_
 .obtain⟨a,b,c,d,e⟩:=s;exact⟨_,rfl,G⟩
 rw[zg (by omega)];refine pm (fun _ r s=>(∀b∈r,b∈l)/\Good ⟨s.1,s.2.1,s.2.2.1,s.2.2.2.1⟩/\KO ⟨s.2.2.2.2⟩) (fun i s h=>?_) (fun i x r s nx h L=>?_) (l.take _) 0 (M.F,M.B,M.E,M.D,[]) ⟨fun b R=>mem_of_mem_take R,P,Ew⟩
 .obtain⟨a,b,c,d,e⟩:=s;exact J _ h.2
 obtain⟨a,b,c,d,e⟩:=s;obtain⟨O,k,m⟩:=h;simp only at k m;have hx:=Q x (O x (mem_cons_self ..));have S:=fun y N=>O y (mem_cons_of_mem x N);refine Ends.jpI (fun s:List ab×List ae×List ab×List ah×List aa=>Good ⟨s.1,s.2.1,s.2.2.1,s.2.2.2.1⟩/\KO ⟨s.2.2.2.2⟩) (fun s G=>?_) fun k1 w=>?_
 .obtain⟨a,b,c,d,e⟩:=s;exact L _ ⟨S,G⟩
 refine Ends.jpI (fun s:Int×List ab×List ae×List ab×List ah×List aa×List ai×List aa×List am=>Good ⟨s.2.1,s.2.2.1,s.2.2.2.1,s.2.2.2.2.1⟩/\KO ⟨s.2.2.2.2.2.1⟩/\(s.1=0->(∀c∈s.2.2.2.2.2.2.1,kL c)/\KO ⟨s.2.2.2.2.2.2.2.1⟩)) (fun s G=>?_) fun T p=>?_
 .obtain⟨q,a,b,c,d,e,o,hd,ns⟩:=s;obtain⟨t,u,H⟩:=G;simp only at t u H;refine Ends.bif (fun U=>?_) fun _=>w _ ⟨t,u⟩;obtain⟨V,W⟩:=H (of_decide_eq_true U);rw[Se t o V,zf];exact Ends.bif (fun I=>w _ ⟨(RI t o (of_decide_eq_true I)).1,W⟩) fun _=>w _ ⟨t,u⟩
 have j:∀q:Int,q≠0->∀(A:List ab) (B:List ae) (C:List ab) (D:List ah) (E:List aa),Good ⟨A,B,C,D⟩->KO ⟨E⟩->Ends (T (q,A,B,C,D,E,[],[],[])) fun r=>Good r.1/\KO r.2:=fun q X A B C D E Y Z=>p _ ⟨Y,Z,fun h=>absurd h X⟩;refine Ends.bif (fun _=>?_) fun _=>Ends.bif (fun _=>?_) fun _=>Ends.bif (fun _=>?_) fun _=>Ends.bif (fun _=>?_) fun _=>Ends.bif (fun _=>?_) fun _=>j 10 (by decide) _ _ _ _ _ k m
 .exact Ends.call (tP g k m _ _ hx.i _) fun r f=>p _ ⟨k,m,fun h=>f h⟩
 .exact Ends.call (w6 k m _ _) fun r f=>p _ ⟨k,m,fun h=>f h⟩
 .refine pm (fun _ r s=>(∀c∈r,kL c)/\Good ⟨s.1,s.2.1,s.2.2.1,s.2.2.2⟩) (fun i s h=>?_) (fun i y r s nx2 h v=>?_) x.K 0 (a,b,c,d) ⟨hx.c,k⟩
  .obtain⟨a,b,c,d⟩:=s;exact j 10 (by decide) _ _ _ _ _ h.2 m
  .obtain⟨a,b,c,d⟩:=s;obtain⟨t,u⟩:=h;simp only at u;have H:=fun y N=>t y (mem_cons_of_mem _ N);dsimp only;rw[Se u [y] (fun z hz=>by rw[mem_singleton.1 hz];exact t y (mem_cons_self ..)),zf];exact Ends.bif (fun I=>v _ ⟨H,(RI u [y] (of_decide_eq_true I)).1⟩) fun _=>v _ ⟨H,u⟩
 .exact Ends.call (p4 k m _ _ hx.i (by have:=hx.n;omega)) fun r f=>p _ ⟨k,m,fun h=>f h⟩
 .refine Ends.call (tW k m _ _ hx.i hx.n) fun r f=>Ends.bif (fun I=>?_) fun _=>j 10 (by decide) _ _ _ _ _ k m;exact j 10 (by decide) _ _ _ _ _ k (f (of_decide_eq_true I))
theorem Km:Mg:=by
 intro a b c d f g;by_cases h:mE a=false/\mE b=false/\mE c=false
 .rw[Tu a b c (vu h.1) (vu h.2.1) (vu h.2.2)];exact⟨_,rfl,trivial⟩
 .unfold CU;rw[SD a b d f,zf,SD a c d g,zf,yq,zf]
  have:∃e:Int,fg (bif mE a||mE b then(4:Int)else 0) (bif mE a||mE c then 4 else 0)=4:=by
   refine⟨0,?_⟩;cases i:mE a <;> cases j:mE b <;> cases k:mE c <;> simp_all <;> rfl
  obtain⟨_,e⟩:=this;rw[e];exact⟨_,rfl,trivial⟩
def HX:ev:=[48,49,50,51,52,53,54,55,56,57,97,98,99,100,101,102]
def jE(n:Nat):UInt8:=HX.getD n 0
def jq(c:UInt8):Bool:=decide ((c.toNat:Int)=92)||decide ((c.toNat:Int)=34)
def pA(c:UInt8):Bool:=decide ((c.toNat:Int)<32)||decide (126<(c.toNat:Int))
def kr(c:UInt8):ev:=bif jq c then [92,c]else bif decide ((c.toNat:Int)=10)then [92,110]else bif pA c then [92,120,jE (c.toNat / 16),jE (c.toNat % 16)]else [c]
def body(t:ev):ev:=t.flatMap kr
def jJ(t:ev):ev:=34::(body t++[34])
theorem qX{p:UInt8->Prop}(h:∀n:Fin 256,p (UInt8.ofNat n.val))(c:UInt8):p c:=by
 have:=h ⟨c.toNat,c.toNat_lt⟩;simpa using this
theorem GV(c:UInt8):Int.fdiv (c.toNat:Int) (2^(fA .u8 4))=((c.toNat / 16:Nat):Int):=by
 revert c;exact qX (by decide +kernel)
theorem Tn(c:UInt8):fl .and .u8 (c.toNat:Int) 15=((c.toNat % 16:Nat):Int):=by
 revert c;exact qX (by decide +kernel)
theorem lN(c:UInt8):c.toNat / 16<16:=by have:=c.toNat_lt;omega
theorem lx(c:UInt8):c.toNat % 16<16:=by omega
theorem Fb(n:Nat)(h:n<16):(HX[n]'(by simpa [HX]using h))=jE n:=by simp[jE,HX,getD_eq_getElem?_getD,h]
theorem wA{Z:Type}(n:Nat)(h:n<16)(k:Int->Option Z):fI HX (n:Int) k=k ((jE n).toNat:Int):=by rw[sE (by simpa [HX]using h),Fb n h]
theorem Ja(c:UInt8):UInt8.ofNat ((c.toNat:Int)).toNat=c:=by simp
theorem Mv(c:UInt8):(kr c).length<=4/\1<=(kr c).length:=by
 unfold kr;cases jq c <;> cases decide ((c.toNat:Int)=10) <;> cases pA c <;> simp
theorem xo(t:ev):(body t).length<=4*t.length:=by
 induction t with
 |nil=>simp[body]
 |cons c t a =>
  have:=(Mv c).1;simp only[body,flatMap_cons,length_append,length_cons]at *;omega
theorem Ga(c:UInt8)(t:ev):body (c::t)=kr c++body t:=by simp[body]
theorem Pm(t:ev):(jJ t).length<=4*t.length+2:=by
 have:=xo t;simp only[jJ,length_cons,length_append,length_nil];omega
theorem qY(n:Nat)(h:n<16):List.take ((IntKind.u8.wrap ((n:Int)+1)).toNat-((n:Int)).toNat) (List.drop ((n:Int)).toNat HX)=[jE n]:=by
 have:∀m:Fin 16,List.take ((IntKind.u8.wrap (((m.val:Nat):Int)+1)).toNat-(((m.val:Nat):Int)).toNat) (List.drop (((m.val:Nat):Int)).toNat HX)=[jE m.val]:=by decide +kernel
 exact this ⟨n,h⟩
theorem qU(n:Nat)(h:n<16):IntKind.u8.wrap ((n:Int)+1)=((n+1:Nat):Int):=by
 have:∀m:Fin 16,IntKind.u8.wrap (((m.val:Nat):Int)+1)=((m.val+1:Nat):Int):=by decide +kernel
 exact this ⟨n,h⟩
theorem Cc:HX.length=16:=rfl
theorem Ri(s:ev)(j:s.length<=17179869184):FV s=some (jJ s):=by
 unfold FV;simp only[eJ,show([48,49,50,51,52,53,54,55,56,57,97,98,99,100,101,102]:ev)=HX from rfl];refine(Hq (fun i l (o:ev)=>o.length+4*l.length<=4*s.length+1/\s.drop i=l) (fun i l o=>some (o++(body l++[34]))) (fun i o h=>?_) (fun i c l o nx h a=>?_) s 0 _ ?_).trans ?_
 .simp only[length_nil]at h;rw[zg (by simp;omega)];rfl
 .obtain⟨h,d⟩:=h;simp only[length_cons]at h
  have hi:i<s.length:=by
   rcases Nat.lt_or_ge i s.length with h|h
   .exact h
   .rw[drop_eq_nil_of_le h]at d;cases d
  have b:s.drop (i+1)=l:=by
   have:=congrArg List.tail d;simpa using this
  have g:List.take ((((i+1:Nat):Int)).toNat-i) (List.drop i s)=[c]:=by rw[d,Int.toNat_natCast,Nat.add_sub_cancel_left];rfl
  simp only[fw i (by omega),g];rw[Ga];unfold kr jq;rw[show(decide ((c.toNat:Int)=34)||decide ((c.toNat:Int)=92))=(decide ((c.toNat:Int)=92)||decide ((c.toNat:Int)=34))from Bool.or_comm _ _];cases k:decide ((c.toNat:Int)=92)||decide ((c.toNat:Int)=34)with
  |true =>
   simp only[cond_true];rw[zg (by omega),zg (by simp),zg (by simp;omega),a _ ⟨by simp;omega,b⟩];simp
  |false =>
   simp only[cond_false];cases m:decide ((c.toNat:Int)=10)with
   |true =>
    simp only[cond_true];rw[zg (by simp;omega),a _ ⟨by simp;omega,b⟩];simp
   |false =>
    simp only[cond_false];unfold pA;cases n:decide ((c.toNat:Int)<32)||decide (126<(c.toNat:Int))with
    |true =>
     have e:=lN c;have f:=lx c;simp only[cond_true,GV,Tn];simp only[qY _ e,qY _ f];simp only[qU _ e,qU _ f,Cc];rw[zg (by omega),zg (by simp),zg (by omega),zg (by simp),zg (by simp;omega),a _ ⟨by simp;omega,b⟩];simp
    |false =>
     simp only[cond_false];rw[zg (by omega),zg (by simp;omega),a _ ⟨by simp;omega,b⟩];simp
 .exact⟨by simp;omega,rfl⟩
 .rfl
def gM(c:UInt8):Int:=qo HX c
theorem Gk(c:UInt8):gM c=-1∨∃a:Fin 16,gM c=(a.val:Int)/\c=jE a.val:=by
 revert c;exact qX (by decide +kernel)
theorem Gd(n:Nat)(h:n<16):gM (jE n)=n:=by
 have:∀m:Fin 16,gM (jE m.val)=(m.val:Int):=by decide +kernel
 exact this ⟨n,h⟩
def iy:ev->Int×Int
 |[]=>(0,0)
 |c::r=>bif jq c then((c.toNat:Int),1)else bif decide ((c.toNat:Int)=110)then(10,1)else bif !decide ((c.toNat:Int)=120)then(0,0)else match r with
  |h::l::_=>bif decide (gM h<0)||decide (gM l<0)then(0,0)else bif (decide (32<=16*gM h+gM l)&&decide (16*gM h+gM l<=126))||decide (16*gM h+gM l=10)then(0,0)else(16*gM h+gM l,3)
  |_=>(0,0)
theorem AY(r:ev):0<=(iy r).2/\(iy r).2<=r.length/\(iy r).2<=3/\0<=(iy r).1/\(iy r).1<=255:=by
 cases r with
 |nil=>simp[iy]
 |cons c r =>
  have f:=c.toNat_lt;simp only[iy];cases jq c
  .cases decide ((c.toNat:Int)=110)
   .cases decide ((c.toNat:Int)=120)
    .simp;omega
    .rcases r with _|⟨h,_|⟨l,r⟩⟩
     .simp
     .simp;try omega
     .simp only[cond_false,Bool.not_true];rcases Gk h with d|⟨a,d,_⟩
      .simp[d];omega
      rcases Gk l with e|⟨b,e,_⟩
      .simp[e];omega
      have:=a.isLt;have:=b.isLt;simp only[d,e];cases decide (((a.val:Nat):Int)<0)||decide (((b.val:Nat):Int)<0)
      .simp only[cond_false];generalize (decide (32<=16*((a.val:Nat):Int)+((b.val:Nat):Int))&&decide (16*((a.val:Nat):Int)+((b.val:Nat):Int)<=126)||decide (16*((a.val:Nat):Int)+((b.val:Nat):Int)=10))=q;cases q
       .simp only[cond_false,length_cons];omega
       .simp;omega
      .simp;omega
   .simp;omega
  .simp only[cond_true,length_cons];omega
theorem ot{x:UInt8}(h:jq x=true)(r:ev):iy (x::r)=((x.toNat:Int),1):=by simp only[iy,h,cond_true]
theorem wW{x:UInt8}(h:jq x=false)(a:decide ((x.toNat:Int)=110)=false)(b:decide ((x.toNat:Int)=120)=false)(r:ev):iy (x::r)=(0,0):=by simp only[iy,h,a,b,cond_false,Bool.not_false,cond_true]
theorem Ol(h l:UInt8)(r:ev):iy (120::h::l::r)=bif decide (gM h<0)||decide (gM l<0)then(0,0)else bif (decide (32<=16*gM h+gM l)&&decide (16*gM h+gM l<=126))||decide (16*gM h+gM l=10)then(0,0)else(16*gM h+gM l,3):=rfl
theorem tz(m n:Nat)(a:m<16)(b:n<16)(r:ev):iy (120::jE m::jE n::r)=bif (decide (32<=16*(m:Int)+(n:Int))&&decide (16*(m:Int)+(n:Int)<=126))||decide (16*(m:Int)+(n:Int)=10)then(0,0)else(16*(m:Int)+(n:Int),3):=by rw[Ol,Gd m a,Gd n b,decide_eq_false (by omega),decide_eq_false (by omega)];rfl
theorem nX(s:ev)(c:UInt8):GO s (c.toNat:Int)=some (qo s c):=by
 unfold GO GQ;rw[Sk];rfl
theorem B1(n:Int)(h:0<=n)(a:n<=255):IntKind.u8.wrap n=n:=by rw[I6 h a]
theorem TW(s:ev):Im s=some (iy s):=by
 unfold Im;cases s with
 |nil=>rfl
 |cons c r =>
  simp only[show decide (c::r=([]:ev))=false from rfl,cond_false];rw[show fI (c::r) 0=fI (c::r) ((0:Nat):Int)from rfl,sE (by simp)];simp only[getElem_cons_zero];simp only[iy];rw[show(decide ((c.toNat:Int)=92)||decide ((c.toNat:Int)=34))=jq c from rfl];cases jq c
  .simp only[cond_false];cases decide ((c.toNat:Int)=110)
   .simp only[cond_false];cases decide ((c.toNat:Int)=120)
    .rfl
    .simp only[Bool.not_true,Bool.false_or,cond_false];rcases r with _|⟨h,_|⟨l,r⟩⟩
     .rfl
     .rfl
     .rw[decide_eq_false (by simp only[length_cons];omega),cond_false,show fI (c::h::l::r) 1=fI (c::h::l::r) ((1:Nat):Int)from rfl,sE (by simp)];simp only[getElem_cons_succ,getElem_cons_zero,show([48,49,50,51,52,53,54,55,56,57,97,98,99,100,101,102]:ev)=HX from rfl,nX,zf];rw[show fI (c::h::l::r) 2=fI (c::h::l::r) ((2:Nat):Int)from rfl,sE (by simp)];simp only[getElem_cons_succ,getElem_cons_zero,nX,zf];rw[show qo HX h=gM h from rfl,show qo HX l=gM l from rfl];rcases Gk h with d|⟨a,d,_⟩
      .rw[d];rfl
      rcases Gk l with e|⟨b,e,_⟩
      .rw[e];simp
      have f:=a.isLt;have g:=b.isLt;rw[d,e,decide_eq_false (by omega),decide_eq_false (by omega)];simp only[Bool.or_false,cond_false];rw[gj (n:=16*((a.val:Nat):Int)) (by omega) (by omega),gj (n:=16*((a.val:Nat):Int)+((b.val:Nat):Int)) (by omega) (by omega),B1 _ (by omega) (by omega)];generalize (decide (32<=16*((a.val:Nat):Int)+((b.val:Nat):Int))&&decide (16*((a.val:Nat):Int)+((b.val:Nat):Int)<=126)||decide (16*((a.val:Nat):Int)+((b.val:Nat):Int)=10))=q;cases q <;> rfl
   .rfl
  .rfl
def vb:ev->Option (UInt8×ev)
 |[]=>none
 |c::r=>bif pA c||decide ((c.toNat:Int)=34)then none else bif decide ((c.toNat:Int)=92)then(bif decide ((iy r).2=0)then none else some (UInt8.ofNat (iy r).1.toNat,r.drop (iy r).2.toNat))else some (c,r)
theorem AX(x:UInt8)(f:jq x=false)(b:decide ((x.toNat:Int)=10)=false)(a:pA x=true)(r:ev):iy (120::jE (x.toNat / 16)::jE (x.toNat % 16)::r)=((x.toNat:Int),3):=by
 have c:=lN x;have d:=lx x;simp only[iy];rw[show jq 120=false from rfl,show decide ((((120:UInt8).toNat:Nat):Int)=110)=false from rfl,show decide ((((120:UInt8).toNat:Nat):Int)=120)=true from rfl];simp only[cond_false,Bool.not_true,Gd _ c,Gd _ d];have e:16*((x.toNat / 16:Nat):Int)+((x.toNat % 16:Nat):Int)=(x.toNat:Int):=by omega
 rw[e,decide_eq_false (by omega),decide_eq_false (by omega)];simp only[Bool.or_self,cond_false,b,Bool.or_false];have:(decide (32<=(x.toNat:Int))&&decide ((x.toNat:Int)<=126))=false:=by unfold pA at a;simp only[Bool.or_eq_true,decide_eq_true_eq]at a;simp only[Bool.and_eq_false_iff,decide_eq_false_iff_not];omega
 rw[this];rfl
theorem yY(x:UInt8)(r:ev):vb (kr x++r)=some (x,r):=by
 unfold kr;cases a:jq x
 .cases b:decide ((x.toNat:Int)=10)
  .cases c:pA x
   .simp only[cond_false,cons_append,nil_append];simp only[vb];unfold jq at a;simp only[Bool.or_eq_false_iff]at a;rw[c,a.1,a.2];rfl
   .simp only[cond_false,cond_true,cons_append,nil_append];simp only[vb];rw[AX x a b c];simp;rfl
  .simp only[cond_false,cond_true,cons_append,nil_append]
   have:x=10:=by
    have h:=of_decide_eq_true b;have:x.toNat=10:=by omega
    exact UInt8.toNat_inj.1 this
   subst this;rfl
 .simp only[cond_true,cons_append,nil_append];simp only[vb,ot a];simp;rfl
theorem mV{r r2:ev}{x:UInt8}(h:vb r=some (x,r2)):r=kr x++r2:=by
 cases r with
 |nil=>cases h
 |cons c r =>
  simp only[vb]at h;cases e:pA c||decide ((c.toNat:Int)=34)
  .rw[e,cond_false]at h;simp only[Bool.or_eq_false_iff]at e;cases f:decide ((c.toNat:Int)=92)
   .rw[f,cond_false]at h;cases h;unfold kr jq;rw[f,e.2];have:decide ((x.toNat:Int)=10)=false:=by have:=e.1;unfold pA at this;simp only[Bool.or_eq_false_iff,decide_eq_false_iff_not]at this;simp only[decide_eq_false_iff_not];omega
    rw[this,e.1];rfl
   .rw[f,cond_true]at h
    have y:c=92:=by
     have h:=of_decide_eq_true f;have:c.toNat=92:=by omega
     exact UInt8.toNat_inj.1 this
    subst y;cases r with
    |nil=>simp[iy]at h
    |cons d r =>
     cases j:jq d
     .cases u:decide ((d.toNat:Int)=110)
      .cases hx:decide ((d.toNat:Int)=120)
       .rw[wW j u hx]at h;simp at h
       .have k:d=120:=by
         have h:=of_decide_eq_true hx;have:d.toNat=120:=by omega
         exact UInt8.toNat_inj.1 this
        subst k;rcases r with _|⟨a,_|⟨b,r⟩⟩
        .rw[show iy [120]=(0,0)from rfl]at h;simp at h
        .rw[show iy [120,a]=(0,0)from rfl]at h;simp at h
        .rcases Gk a with v|⟨m,v,rfl⟩
         .rw[Ol,v]at h;simp at h
         rcases Gk b with w|⟨n,w,rfl⟩
         .rw[Ol,w]at h;simp at h
         have z:=m.isLt;have l:=n.isLt;have g:=tz m.val n.val z l r;cases o:(decide (32<=16*((m.val:Nat):Int)+((n.val:Nat):Int))&&decide (16*((m.val:Nat):Int)+((n.val:Nat):Int)<=126))||decide (16*((m.val:Nat):Int)+((n.val:Nat):Int)=10)
         .rw[o,cond_false]at g;rw[g]at h;rw[show decide ((3:Int)=0)=false from rfl,cond_false]at h;have i:=Option.some.inj h;have p:UInt8.ofNat (16*((m.val:Nat):Int)+((n.val:Nat):Int)).toNat=x:=congrArg Prod.fst i;have q:List.drop (3:Int).toNat (120::jE m.val::jE n.val::r)=r2:=congrArg Prod.snd i;have s:r=r2:=q;have t:x.toNat=16*m.val+n.val:=by rw[<-p,UInt8.toNat_ofNat'];omega
          simp only[Bool.or_eq_false_iff,Bool.and_eq_false_iff,decide_eq_false_iff_not]at o;unfold kr;have A:jq x=false:=by unfold jq;simp only[Bool.or_eq_false_iff,decide_eq_false_iff_not];omega
          have B:decide ((x.toNat:Int)=10)=false:=by simp only[decide_eq_false_iff_not];omega
          have C:pA x=true:=by unfold pA;simp only[Bool.or_eq_true,decide_eq_true_eq];omega
          rw[A,B,C,t,show(16*m.val+n.val) / 16=m.val by omega,show(16*m.val+n.val) % 16=n.val by omega,<-s];rfl
         .rw[o,cond_true]at g;rw[g]at h;simp at h
      .have k:d=110:=by
        have h:=of_decide_eq_true u;have:d.toNat=110:=by omega
        exact UInt8.toNat_inj.1 this
       subst k;have i:some ((10:UInt8),r)=some (x,r2):=h;cases i;rfl
     .rw[ot j]at h;simp only[]at h;rw[show decide ((1:Int)=0)=false from rfl,cond_false,Ja]at h;cases h;unfold kr;rw[j];rfl
  .rw[e,cond_true]at h;cases h
def jv:Nat->ev->Option ev
 |n,[]=>some []
 |0,_::_=>none
 |n+1,c::r=>(vb (c::r)).bind fun p=>(jv n p.2).map (p.1::·)
theorem MR(n:Nat):jv n []=some []:=by cases n <;> rfl
theorem sK(c:UInt8)(r:ev):jv 0 (c::r)=none:=rfl
theorem HK(n:Nat)(c:UInt8)(r:ev):jv (n+1) (c::r)=(vb (c::r)).bind fun p=>(jv n p.2).map (p.1::·):=rfl
theorem wV(x:UInt8):kr x≠[]:=by
 have:=(Mv x).2;intro h;rw[h]at this;simp at this
theorem jL:∀(t:ev) (n:Nat),t.length<=n->jv n (body t)=some t
 |[],n,_=>MR n
 |x::t,0,h=>by simp at h
 |x::t,n+1,h=>by
  rw[Ga];have b:=yY x (body t);have a:kr x++body t≠[]:=fun h=>wV x (append_eq_nil_iff.1 h).1;obtain⟨c,r,d⟩:=exists_cons_of_ne_nil a;rw[d]at b|-;rw[HK,b,Option.bind_some,jL t n (by simpa using h)];rfl
theorem RK:∀(n:Nat) (r t:ev),jv n r=some t->body t=r
 |n,[],t,h=>by
  rw[MR]at h;obtain rfl:=Option.some.inj h;rfl
 |0,c::r,t,h=>by rw[sK]at h;cases h
 |n+1,c::r,t,h=>by rw[HK]at h;obtain⟨p,a,h⟩:=Option.bind_eq_some_iff.1 h;obtain⟨b,d,h⟩:=Option.map_eq_some_iff.1 h;rw[<-h,Ga,RK n p.2 b d];exact(mV (x:=p.1) (r2:=p.2) a).symm
theorem qZ{r r2:ev}{x:UInt8}(h:vb r=some (x,r2)):r2.length<r.length:=by
 have:=mV h;have a:=(Mv x).2;rw[this,length_append];omega
theorem MX{α β:Type}{o:Option α}{f g:α->Option β}(h:∀p,o=some p->f p=g p):o.bind f=o.bind g:=by
 cases o with
 |none=>rfl
 |some p=>exact h p rfl
theorem PJ:∀(n:Nat) (r:ev),r.length<=n->jv n r=jv r.length r
 |n,[],_=>by rw[MR,MR]
 |0,c::r,h=>by simp at h
 |n+1,c::r,h=>by
  rw[length_cons,HK,HK];refine MX fun p a=>?_;have b:=qZ (x:=p.1) (r2:=p.2) a;rw[length_cons]at b h;rw[PJ n p.2 (by omega),PJ r.length p.2 (by omega)]
def ud(r:ev):Option ev:=jv r.length r
theorem pH{c:UInt8}{r:ev}:ud (c::r)=(vb (c::r)).bind fun p=>(ud p.2).map (p.1::·):=by
 unfold ud;rw[length_cons,HK];refine MX fun p a=>?_;have b:=qZ (x:=p.1) (r2:=p.2) a;rw[length_cons]at b;rw[PJ r.length p.2 (by omega)]
theorem sm(t:ev):t.length<=(body t).length:=by
 induction t with
 |nil=>simp
 |cons c t a =>
  have:=(Mv c).2;rw[Ga,length_append,length_cons];omega
theorem RJ(t:ev):ud (body t)=some t:=jL t _ (sm t)
theorem R5{r t:ev}(h:ud r=some t):body t=r:=RK _ _ _ h
def ol(o:Option ev):ev×Int:=match o with
 |some t=>(t,0)
 |none=>([],8)
def gz(s:ev):ev:=(s.drop 1).take (s.length-2)
def xW(s:ev):Bool:=!((decide ((s.length:Int)<2)||!decide (((s.getD 0 0).toNat:Int)=34))||!decide (((s.getD (s.length-1) 0).toNat:Int)=34))
def im(s:ev):ev×Int:=bif xW s then ol (ud (gz s))else([],8)
theorem Ov(s:ev)(h:2<=s.length)(a:s.length<=17179869184):IntKind.i64.wrap ((s.length:Int)-1)=((s.length-1:Nat):Int):=yp _ (by omega) (by omega)
theorem Uc(s:ev)(j:s.length<=17179869184):Ia s=some (im s):=by
 unfold Ia im xW;obtain⟨N,g⟩:∃N,ff=N:=⟨_,rfl⟩;have k:1099511627776<=N:=g ▸ qM;rw[g];clear g;by_cases l:2<=s.length;rotate_left
 .rw[show decide ((s.length:Int)<2)=true by simp;omega];simp only[Bool.not_true,Bool.true_or];rw[zg (by intro h;cases h),zg (by intro h;cases h)];rfl
 rw[show decide ((s.length:Int)<2)=false by simp;omega];rw[Ov s l j];simp only[Bool.false_or,Int.toNat_natCast];rw[zg (by intro _;omega),zg (by intro _;omega)];generalize (!decide (((s.getD 0 0).toNat:Int)=34)||!decide (((s.getD (s.length-1) 0).toNat:Int)=34))=q;cases q;rotate_left
 .rfl
 have m:List.take (s.length-1-1) (List.drop 1 s)=gz s:=by unfold gz;congr 1
 simp only[cond_false,Bool.not_false,cond_true,m,eJ];have p:(gz s).length=s.length-2:=by simp[gz];omega
 rw[zg (by omega),zg (by omega)];refine(pq (S:=Int×List Int) (fun a=>∃i:Nat,a.1=i/\i<=(gz s).length/\a.2.length<=i) (fun a=>(gz s).length-a.1.toNat) (fun a=>some (ol ((ud ((gz s).drop a.1.toNat)).map (Go.Vc.strOf a.2++·)))) ?_ N _ ⟨0,rfl,by omega,by simp⟩ (by simp only;omega)).trans ?_
 .rintro⟨w,o⟩ nx ⟨i,rfl,hi,r⟩ b;simp only at r b|-;by_cases f:i<(gz s).length
  .rw[decide_eq_true (by omega),cond_true,sE f];simp only[Int.toNat_natCast];rw[drop_eq_getElem_cons f,pH];generalize u:(gz s)[i]=c;rw[show((decide ((c.toNat:Int)<32)||decide (126<(c.toNat:Int)))||decide ((c.toNat:Int)=34))=(pA c||decide ((c.toNat:Int)=34))from rfl];simp only[vb];cases y:pA c||decide ((c.toNat:Int)=34)
   .simp only[cond_false];cases z:decide ((c.toNat:Int)=92)
    .simp only[cond_false];rw[fw i (by omega),zg (by simp;omega),b _ ⟨i+1,rfl,by omega,by simp;omega⟩ (by simp only[Int.toNat_natCast];omega)];simp only[Int.toNat_natCast];rw[Option.bind_some];cases ud ((gz s).drop (i+1))with
     |none=>rfl
     |some t=>simp only[Option.map_some,BT,BL,BK,Ja];simp[ol]
    .simp only[cond_true];rw[fw i (by omega),zg (by omega)];simp only[Int.toNat_natCast,TW,zf];have d:=AY ((gz s).drop (i+1));rw[length_drop]at d;generalize A:iy ((gz s).drop (i+1))=E at d;obtain⟨x,n⟩:=E;simp only at d|-;cases hz:decide (n=0)
     .simp only[cond_false];have v:n≠0:=of_decide_eq_false hz;rw[zg (by simp;omega),gj (n:=(i:Int)+n) (by omega) (by omega),gj (n:=(i:Int)+n+1) (by omega) (by omega)];have e:(i:Int)+n+1=((i+n.toNat+1:Nat):Int):=by omega
      rw[e,b _ ⟨i+n.toNat+1,rfl,by omega,by simp;omega⟩ (by simp only[Int.toNat_natCast];omega)];simp only[Int.toNat_natCast,drop_drop];rw[show i+1+n.toNat=i+n.toNat+1 by omega];rw[Option.bind_some];simp only;cases ud ((gz s).drop (i+n.toNat+1))with
      |none=>rfl
      |some t=>simp only[Option.map_some,BT,BL,BK];simp[ol]
     .rfl
   .rfl
  .obtain rfl:i=(gz s).length:=by omega
   rw[decide_eq_false (by omega),cond_false,Int.toNat_natCast,drop_length];show _=some (Go.Vc.strOf o++[],(0:Int));rw[append_nil]
 .simp only[Int.toNat_zero,drop_zero,List.replicate];cases ud (gz s)with
  |none=>rfl
  |some t=>rfl
def wB(h l:UInt8):Int:=IntKind.u8.wrap (IntKind.i64.wrap ((IntKind.i64.wrap (gM h*16))+gM l))
def iT(c:UInt8):Bool:=decide ((c.toNat:Int)=34)||decide ((c.toNat:Int)=92)
theorem tf(c:UInt8):iT c=jq c:=Bool.or_comm _ _
def ur:ev->Option (Int×ev)
 |d::r=>bif iT d then some ((d.toNat:Int),r)else bif decide ((d.toNat:Int)=110)then some (10,r)else bif decide ((d.toNat:Int)=120)then(match r with
  |h::l::a=>some (wB h l,a)
  |_=>none)else none
 |[]=>none
def fU:ev->Option (Int×ev)
 |[]=>none
 |c::r=>bif !decide ((c.toNat:Int)=92)then some ((c.toNat:Int),r)else ur r
theorem AN(m n:Nat)(a:m<16)(b:n<16):wB (jE m) (jE n)=16*m+n:=by unfold wB;rw[Gd m a,Gd n b,gj (n:=(m:Int)*16) (by omega) (by omega),gj (n:=(m:Int)*16+n) (by omega) (by omega),B1 _ (by omega) (by omega)];omega
theorem we(x:UInt8)(r:ev):fU (kr x++r)=some ((x.toNat:Int),r):=by
 unfold kr;cases a:jq x
 .cases b:decide ((x.toNat:Int)=10)
  .cases e:pA x
   .simp only[cond_false,cons_append,nil_append,fU];unfold jq at a;simp only[Bool.or_eq_false_iff]at a;rw[a.1];rfl
   .simp only[cond_false,cond_true,cons_append,nil_append,fU];have c:=lN x;have d:=lx x;show some (wB (jE (x.toNat / 16)) (jE (x.toNat % 16)),r)=_;rw[AN _ _ c d];congr 2;omega
  .simp only[cond_false,cond_true,cons_append,nil_append];have h:=of_decide_eq_true b;rw[h];rfl
 .simp only[cond_true,cons_append,nil_append,fU];show ur (x::r)=_;simp only[ur,tf,a,cond_true]
theorem nG{r:ev}{p:Int×ev}(h:fU r=some p):p.2.length<r.length:=by
 cases r with
 |nil=>cases h
 |cons c r =>
  simp only[fU]at h;cases e:!decide ((c.toNat:Int)=92)
  .rw[e,cond_false]at h;cases r with
   |nil=>cases h
   |cons d r =>
    simp only[ur]at h;cases f:iT d
    .rw[f,cond_false]at h;cases g:decide ((d.toNat:Int)=110)
     .rw[g,cond_false]at h;cases i:decide ((d.toNat:Int)=120)
      .rw[i,cond_false]at h;cases h
      .rw[i,cond_true]at h;rcases r with _|⟨a,_|⟨b,r⟩⟩
       .cases h
       .cases h
       .have:=(Option.some.inj h).symm;rw[this];simp only[length_cons];omega
     .rw[g,cond_true]at h;have:=(Option.some.inj h).symm;rw[this];simp only[length_cons];omega
    .rw[f,cond_true]at h;have:=(Option.some.inj h).symm;rw[this];simp only[length_cons];omega
  .rw[e,cond_true]at h;have:=(Option.some.inj h).symm;rw[this];simp only[length_cons];omega
def qg:Nat->ev->List Int->Option (List Int)
 |n,[],o=>some o
 |0,_::_,_=>none
 |n+1,c::r,o=>(fU (c::r)).bind fun p=>qg n p.2 (o++[p.1])
theorem OQ(n:Nat)(o:List Int):qg n [] o=some o:=by cases n <;> rfl
theorem O9(n:Nat)(c:UInt8)(r:ev)(o:List Int):qg (n+1) (c::r) o=(fU (c::r)).bind fun p=>qg n p.2 (o++[p.1]):=rfl
theorem PM:∀(n:Nat) (r:ev) (o:List Int),r.length<=n->qg n r o=qg r.length r o
 |n,[],o,_=>by rw[OQ,OQ]
 |0,c::r,o,h=>by simp at h
 |n+1,c::r,o,h=>by
  rw[length_cons,O9,O9];refine MX fun p a=>?_;have b:=nG a;rw[length_cons]at b h;rw[PM n p.2 _ (by omega),PM r.length p.2 _ (by omega)]
def iQ(r:ev)(o:List Int):Option (List Int):=qg r.length r o
theorem RP{c:UInt8}{r:ev}{o:List Int}:iQ (c::r) o=(fU (c::r)).bind fun p=>iQ p.2 (o++[p.1]):=by
 unfold iQ;rw[length_cons,O9];refine MX fun p a=>?_;have b:=nG a;rw[length_cons]at b;rw[PM r.length p.2 _ (by omega)]
theorem RN:∀(t:ev) (o:List Int),iQ (body t) o=some (o++xY t)
 |[],o=>by rw[show body []=[]from rfl];simp[iQ,OQ,xY]
 |x::t,o=>by
  rw[Ga];have b:=we x (body t);have a:kr x++body t≠[]:=fun h=>wV x (append_eq_nil_iff.1 h).1;obtain⟨c,r,d⟩:=exists_cons_of_ne_nil a;rw[d]at b|-;rw[RP,b,Option.bind_some,RN t];simp[xY]
theorem mZ(t:ev):Go.Vc.strOf (xY t)=t:=Sq t
theorem nr(s:ev)(h:xW s=true):s=34::(gz s++[34]):=by
 unfold xW at h;simp only[Bool.not_eq_true',Bool.or_eq_false_iff,decide_eq_false_iff_not,Bool.not_eq_false',decide_eq_true_eq]at h;obtain⟨⟨b,d⟩,e⟩:=h;rcases s with _|⟨c,r⟩
 .simp at b
 have a:r≠[]:=by rintro rfl;simp at b
 have f:c=34:=by
  have:c.toNat=34:=by rw[getD_cons_zero]at d;omega
  exact UInt8.toNat_inj.1 this
 have g:0<r.length:=length_pos_iff.2 a;have i:r.getLast a=34:=by
  rw[show(c::r).length-1=(r.length-1)+1 by simp;omega,getD_cons_succ,getD_eq_getElem?_getD,getElem?_eq_getElem (by omega),Option.getD_some]at e;rw[getLast_eq_getElem];have:(r[r.length-1]'(by omega)).toNat=34:=by omega
  exact UInt8.toNat_inj.1 this
 have j:gz (c::r)=r.dropLast:=by unfold gz;rw[dropLast_eq_take];simp
 rw[j,f];congr 1;rw[<-i];exact(dropLast_concat_getLast a).symm
theorem yS(c d:UInt8)(r:ev):(c::d::r).getD 1 0=d:=rfl
theorem mr(s:ev)(w:s.length<=17179869184):Gi s=some (im s):=by
 unfold Gi im;obtain⟨N,q⟩:∃N,ff=N:=⟨_,rfl⟩;have x:1099511627776<=N:=q ▸ qM;rw[q];clear q;cases f:xW s
 .unfold xW at f;simp only[Bool.not_eq_false']at f;by_cases u:2<=s.length
  .rw[show decide ((s.length:Int)<2)=false by simp;omega]at f|-;rw[Ov s u w];simp only[Bool.false_or,Int.toNat_natCast]at f|-;rw[zg (by intro _;omega),zg (by intro _;omega),f];rfl
  .rw[show decide ((s.length:Int)<2)=true by simp;omega];simp only[Bool.not_true,Bool.true_or];rw[zg (by intro h;cases h),zg (by intro h;cases h)];rfl
 have l:=nr s f;unfold xW at f;simp only[Bool.not_eq_true']at f;have u:2<=s.length:=by simp only[Bool.or_eq_false_iff,decide_eq_false_iff_not]at f;omega
 rw[show decide ((s.length:Int)<2)=false by simp;omega]at f|-;rw[Ov s u w];simp only[Bool.false_or,Int.toNat_natCast]at f|-;rw[zg (by intro _;omega),zg (by intro _;omega),f];have y:List.take (s.length-1-1) (List.drop 1 s)=gz s:=by unfold gz;congr 1
 have z:(gz s).length=s.length-2:=by simp[gz];omega
 simp only[cond_false,cond_true,y,eJ];rw[zg (by omega)];refine(pq (S:=ev×List Int) (fun j=>j.2.length+j.1.length<=s.length) (fun j=>j.1.length) (fun j=>match iQ j.1 j.2 with
   |some o=>bif !decide (jJ (Go.Vc.strOf o)=s)then some (([]:ev),(8:Int))else some (Go.Vc.strOf o,0)
   |none=>some ([],8)) ?_ N _ (by simp only[length_nil];omega) (by simp only;omega)).trans ?_
 .rintro⟨b,o⟩ nx hi g;dsimp +instances only at hi g|-;cases b with
  |nil =>
   simp only[show decide (([]:ev)=[])=true from rfl,Bool.not_true,cond_false];rw[Ri _ (by simp[Go.Vc.strOf];simp at hi;omega),zf];rfl
  |cons c r =>
   simp only[show decide (c::r=([]:ev))=false from rfl,Bool.not_false,cond_true];rw[show fI (c::r) 0=fI (c::r) ((0:Nat):Int)from rfl,sE (by simp)];simp only[getElem_cons_zero];rw[RP];simp only[length_cons]at hi;cases i:!decide ((c.toNat:Int)=92)
   .simp only[cond_false];cases r with
    |nil =>
     simp only[length_cons,length_nil];rw[zg (by intro h;simp at h),zg (by intro h;simp at h)];simp only[show decide ((2:Int)<=((0+1:Nat):Int))=false from rfl,show decide ((4:Int)<=((0+1:Nat):Int))=false from rfl,Bool.false_and,cond_false];rw[zg (by intro h;cases h),zg (by intro h;cases h)];simp only[fU,i,cond_false,ur];rfl
    |cons d r =>
     rw[show decide ((2:Int)<=((c::d::r).length:Int))=true by simp;omega];dsimp +instances only [yS];simp only[Bool.true_and];rw[zg (by intro h;simp;omega),zg (by intro h;simp;omega)];rw[show(decide ((d.toNat:Int)=34)||decide ((d.toNat:Int)=92))=iT d from rfl];simp only[length_cons]at hi;cases k:iT d
     .simp only[cond_false];rw[zg (by intro h;simp;omega)];cases m:decide ((d.toNat:Int)=110)
      .simp only[cond_false];rw[zg (by intro h;simp;omega)];cases n:decide ((d.toNat:Int)=120)
       .simp only[Bool.and_false,cond_false,fU,i,ur,k,m,n];rfl
       .simp only[Bool.and_true];rcases r with _|⟨a,_|⟨e,r⟩⟩
        .simp only[show decide ((4:Int)<=(([c,d]:ev).length:Int))=false from rfl,cond_false,fU,i,ur,k,m,n,cond_true];rfl
        .simp only[show decide ((4:Int)<=(([c,d,a]:ev).length:Int))=false from rfl,cond_false,fU,i,ur,k,m,n,cond_true];rfl
        .rw[show decide ((4:Int)<=((c::d::a::e::r).length:Int))=true by simp;omega,cond_true];rw[zg (by simp;omega)];rw[show List.take (3-2) (List.drop 2 (c::d::a::e::r))=[a]from rfl,show List.take (4-3) (List.drop 3 (c::d::a::e::r))=[e]from rfl];rw[show([48,49,50,51,52,53,54,55,56,57,97,98,99,100,101,102]:ev)=HX from rfl,Ht,Ht,zf,zg (by simp;omega),zf];rw[show IntKind.u8.wrap (IntKind.i64.wrap (IntKind.i64.wrap (qo HX a*16)+qo HX e))=wB a e from rfl];simp only[length_cons]at hi;rw[zg (by simp;omega),zg (by simp;omega),g _ (by simp;omega) (by simp;omega)];simp only[cond_false,fU,i,ur,k,m,n,cond_true,Option.bind_some];rfl
      .simp only[cond_true];rw[zg (by simp;omega),zg (by simp;omega),g _ (by simp;omega) (by simp;omega)];simp only[cond_false,fU,i,ur,k,m,cond_true,Option.bind_some];rfl
     .simp only[cond_true];rw[show fI (c::d::r) 1=fI (c::d::r) ((1:Nat):Int)from rfl,sE (by simp)];simp only[getElem_cons_succ,getElem_cons_zero];rw[zg (by simp;omega),zg (by simp;omega),g _ (by simp;omega) (by simp;omega)];simp only[cond_false,fU,i,ur,k,cond_true,Option.bind_some];rfl
   .simp only[cond_true];rw[zg (by simp;omega),zg (by simp;omega),g _ (by simp;omega) (by simp)];simp only[fU,i,cond_true,Option.bind_some];rfl
 .simp only[Bool.not_false,cond_true];cases v:ud (gz s)with
  |some t =>
   have p:=R5 v;rw[<-p,RN,nil_append];simp only[mZ];have:jJ t=s:=by
    unfold jJ;rw[p];exact l.symm
   rw[this];simp only[decide_true,Bool.not_true,cond_false,ol]
  |none =>
   cases B:iQ (gz s) []with
   |none=>rfl
   |some o =>
    have:jJ (Go.Vc.strOf o)≠s:=by intro h;rw[l]at h;unfold jJ at h;have A:=(List.cons.inj h).2;have p:=append_cancel_right A;rw[<-p,RJ]at v;cases v
    simp only[decide_eq_false this,Bool.not_false,cond_true,ol]
theorem Tr(s:ev)(d:s.length<=17179869184):HW s=some (jJ s):=by
 unfold HW;have b:IntKind.i64.wrap ((s.length:Int)+2)=((s.length+2:Nat):Int):=by rw[gj (by omega) (by omega)];rfl
 simp only[b,eJ];rw[zg (by omega),zg (by simp)];refine(Hq (fun i l (o:List Int)=>o.length+4*l.length<=4*s.length+1) (fun i l o=>some (Go.Vc.strOf o++(body l++[34]))) (fun i o h=>?_) (fun i c l o nx h a=>?_) s 0 _ ?_).trans ?_
 .simp only[length_nil]at h;rw[zg (by simp;omega),BT];rfl
 .simp only[length_cons]at h;rw[Ga];unfold kr jq;cases e:decide ((c.toNat:Int)=92)||decide ((c.toNat:Int)=34)with
  |true =>
   simp only[cond_true];rw[zg (by simp;omega),a _ (by simp;omega),BT];simp only[BL,BK,Ja];simp
  |false =>
   simp only[cond_false];cases f:decide ((c.toNat:Int)=10)with
   |true =>
    simp only[cond_true];rw[zg (by simp;omega),a _ (by simp;omega),BT];simp[BL,BK]
   |false =>
    simp only[cond_false];unfold pA;cases g:decide ((c.toNat:Int)<32)||decide (126<(c.toNat:Int))with
    |true =>
     simp only[cond_true,GV,Tn];rw[show([48,49,50,51,52,53,54,55,56,57,97,98,99,100,101,102]:ev)=HX from rfl,wA _ (lN c),wA _ (lx c),zg (by simp;omega),a _ (by simp;omega),BT];simp only[BL,BK,Ja];simp
    |false =>
     simp only[cond_false];rw[zg (by simp;omega),a _ (by simp;omega),BT];simp only[BL,BK,Ja];simp
 .simp;omega
 .simp only[List.replicate,nil_append,BL,BK];rfl
def fC:Nat->ev->List ev
 |0,s=>[s]
 |k+1,s=>if (32:UInt8)∈s then(eW 32 s).1::fC k (eW 32 s).2.1 else [s]
theorem R3{s:ev}(h:(32:UInt8)∉s):∀k,fC k s=[s]
 |0=>rfl
 |k+1=>if_neg h
theorem Pc(s:ev)(y:s.length<=17179869184):Dc s [32] 5=some (fC 4 s):=by
 have d:uT s [32] 0 5=some (fC 4 s):=by
  unfold uT;obtain⟨N,e⟩:∃N,ff=N:=⟨_,rfl⟩;have m:1099511627776<=N:=e ▸ qM;rw[e];clear e;simp only[eJ,show decide ((5:Int)=0)=false from rfl,show decide ((5:Int)<0)=false from rfl,show decide (([32]:ev)=[])=false from rfl,cond_true,cond_false];simp only[fw s.length (by omega)];obtain⟨M,n,p,f⟩:∃M:Nat,min (5:Int) ((s.length+1:Nat):Int)=((M+1:Nat):Int)/\M<=4/\(M=4∨M=s.length):=⟨min 4 s.length,by omega,by omega,by omega⟩;rw[n,zg (by omega)];have q:IntKind.i64.wrap (((M+1:Nat):Int)-1)=((M:Nat):Int):=by rw[gj (by omega) (by omega)];omega
  simp only[q,Int.toNat_natCast];refine(pq (S:=ev×Int×List ev) (fun b=>∃i:Nat,b.2.1=i/\b.2.2.length=M+1/\i<=M/\i+b.1.length<=s.length) (fun b=>M-b.2.1.toNat)
   (fun b=>some (b.2.2.take b.2.1.toNat++fC (4-b.2.1.toNat) b.1)) ?_ N _ ⟨0,rfl,by simp,by omega,by simp⟩ (by simp only;omega)).trans ?_
  .rintro⟨t,z,o⟩ nx ⟨i,rfl,k,hi,r⟩ c;simp only at k r hi c|-;simp only[Ht,zf]
   have stop:(32:UInt8)∉t∨i=4->(eA (0<=(i:Int)/\(i:Int)<(o.length:Int)) <| eA (0<=IntKind.i64.wrap ((i:Int)+1)/\IntKind.i64.wrap ((i:Int)+1)<=((List.set o i t).length:Int)) <| some (List.take ((IntKind.i64.wrap ((i:Int)+1)).toNat) (List.set o i t)))=some (o.take i++fC (4-i) t):=fun h=>by
    rw[zg (by omega),fw _ (by omega)];simp only[Int.toNat_natCast,length_set];rw[zg (by omega),CK o _ _ (by omega)];rcases h with h|rfl
    .rw[R3 h]
    .rfl
   by_cases u:i<M
   .rw[decide_eq_true (by omega),cond_true];by_cases a:(32:UInt8)∈t
    .obtain⟨v,A,B⟩:=uK a;have C:=(CN 32 t).2.2 v;obtain⟨w,x⟩:=Nc a;rw[MI a,decide_eq_false (by omega),cond_false];have g:IntKind.i64.wrap (((eW 32 t).1.length:Int)+0)=((eW 32 t).1.length:Int):=by rw[gj (by omega) (by omega)];omega
     have j:IntKind.i64.wrap (((eW 32 t).1.length:Int)+(([32]:ev).length:Int))=(((eW 32 t).1.length+1:Nat):Int):=fw _ (by omega);simp only[g,j,fw i (by omega),Int.toNat_natCast];rw[zg (by omega),zg (by omega),zg (by omega)];simp only[w,x];rw[c _ ⟨i+1,rfl,by simpa using k,by omega,by simp only;omega⟩ (by simp only[Int.toNat_natCast];omega)];simp only[Int.toNat_natCast];rw[CK o i _ (by omega),show 4-i=(4-(i+1))+1 by omega,fC,if_pos a];simp
    .rw[nU a,oM (by decide)];exact stop (.inl a)
   .obtain rfl:i=M:=by omega
    rw[decide_eq_false (by omega),cond_false];refine stop ?_;rcases f with h|h
    .exact .inr h
    .refine .inl fun l=>?_;have:t.length=0:=by omega
     rw[length_eq_zero_iff.1 this]at l;cases l
  .simp
 unfold Dc;rw[d];rfl
theorem j5{c b:UInt8}:∀{s:ev},b∈s->b=c∨∃q∈zQ c s,b∈q
 |[],h=>by cases h
 |x::s,h=>by
  simp only[zQ];rcases mem_cons.1 h with rfl|h
  .by_cases g:b=c
   .exact .inl g
   .right;rw[if_neg g];split
    .exact⟨[b],by simp,by simp⟩
    .exact⟨_,mem_cons_self ..,by simp⟩
  .rcases j5 (c:=c) h with h|⟨q,d,f⟩
   .exact .inl h
   .right;split
    .exact⟨q,mem_cons_of_mem _ d,f⟩
    .split
     .rename_i e;rw[e]at d;cases d
     .rename_i a t e;rw[e]at d;rcases mem_cons.1 d with rfl|d
      .exact⟨_,mem_cons_self ..,mem_cons_of_mem _ f⟩
      .exact⟨q,mem_cons_of_mem _ d,f⟩
theorem Ag{p:ev}(h:fS p=true){b:UInt8}(e:ym b=false)(a:b≠47):b∉p:=by
 intro f;unfold fS at h;simp only[Bool.and_eq_true,all_eq_true]at h;rcases j5 (c:=47) f with g|⟨q,i,d⟩
 .exact a g
 .have:=h.1 q i;unfold uy at this;simp only[Bool.and_eq_true,all_eq_true]at this;have:=this.1.1.1 b d;rw[e]at this;cases this
theorem Ah{p:ev}(h:fS p=true):p≠[]:=by rintro rfl;simp[fS,zQ,uy]at h
theorem lr{p:ev}(h:fY p=true){b:UInt8}(a:qJ b=false):b∉p:=by
 intro c;unfold fY at h;simp only[Bool.and_eq_true,all_eq_true]at h;have:=h.1.1 b c;rw[a]at this;cases this
theorem rB{p:ev}(h:fY p=true):p≠[]:=by rintro rfl;simp[fY]at h
theorem wU(x:UInt8):(10:UInt8)∉kr x:=by
 have:∀x:UInt8,(kr x).contains 10=false:=qX (by decide +kernel);have:=this x;simpa using this
theorem p6(t:ev):(10:UInt8)∉jJ t:=by unfold jJ body;simp only[mem_cons,mem_append,mem_flatMap,not_mem_nil,or_false,not_or,not_exists,not_and];exact⟨by decide,fun x _=>wU x,by decide⟩
theorem sJ(t:ev):im (jJ t)=(t,0):=by
 have a:xW (jJ t)=true:=by
  unfold xW jJ;have b:(34::(body t++[34])).length=(body t).length+2:=by simp
  rw[b];simp only[getD_cons_zero];rw[show(body t).length+2-1=(body t).length+1 by omega,getD_cons_succ,getD_eq_getElem?_getD,getElem?_append_right (Nat.le_refl _)];rw[show decide ((((body t).length+2:Nat):Int)<2)=false by simp only[decide_eq_false_iff_not];omega];simp
 have c:gz (jJ t)=body t:=by unfold gz jJ;rw[show(34::(body t++[34])).length-2=(body t).length by simp];simp
 unfold im;rw[a,c,RJ];rfl
def jI(L:List ev):ev:=L.flatMap fun l=>l++[10]
theorem RH:∀(L:List ev),(∀l∈L,(10:UInt8)∉l)->zQ 10 (jI L)=L++[[]]
 |[],_=>rfl
 |l::L,h=>by
  have:jI (l::L)=l++10::jI L:=by simp[jI]
  rw[this,PI (h l (mem_cons_self ..)),RH L fun x hx=>h x (mem_cons_of_mem _ hx)];rfl
theorem tD(s:ev)(e:s.length<=4194304){L:List ev}{t:ev}(h:zQ 10 s=L++[t]):HS s=some (bif decide (t=[])then(L,-1)else(L++[t],(L.length:Int))):=by
 have b:=NK 10 s;have c:=count_le_length (a:=(10:UInt8)) (l:=s);rw[h,length_append,length_singleton]at b;unfold HS;rw[OL s 10 (by omega),zf,h];have d:IntKind.i64.wrap (((L++[t]).length:Int)-1)=(L.length:Int):=by rw[length_append,length_singleton,gj (by omega) (by omega)];omega
 rw[d,mJ (by simp)];simp only[getElem_append_right (Nat.le_refl _),Nat.sub_self,getElem_singleton];rw[zg (by simp;omega)];simp only[Int.toNat_natCast,take_left];exact qK _ _ _
def KW7:List ev:=[[],[112,114,111,103,114,97,109],[115,104,97,114,101,100],[116,101,120,116],[100,97,116,97],[115,101,116,116,105,110,103],[115,101,114,118,105,99,101]]
theorem Mf:Gp=some KW7:=rfl
theorem Ml:IA=some KW7:=rfl
def iS(v:ev):Nat->List ev->Int
 |_,[]=>-1
 |i,x::r=>bif decide (v=x)then(i:Int)else iS v (i+1) r
theorem O5(l:List ev)(v:ev):z7 l v=some (iS v 0 l):=by
 unfold z7;simp only[eJ];have:∀(l:List ev) (i:Nat),forL l i (fun b c (s:Unit) a d=>bif decide (v=c)then some (b:Int)else a ()) () (fun _=>some (-1))=some (iS v i l):=by
  intro l;induction l with
  |nil=>intro i;rfl
  |cons x l e =>
   intro i;show(bif decide (v=x)then some (i:Int)else forL l (i+1) _ () _)=some (bif decide (v=x)then(i:Int)else iS v (i+1) l);cases decide (v=x)with
   |true=>rfl
   |false=>exact e (i+1)
 exact this l 0
theorem Sg(l:List ev)(v:ev):z6 l v=some (decide (0<=iS v 0 l)):=by unfold z6;rw[O5,zf]
theorem Ps:∀(k:Nat) (s:ev),1<=(fC k s).length/\(fC k s).length<=k+1
 |0,s=>⟨Nat.le_refl _,Nat.le_refl _⟩
 |k+1,s=>by
  rw[fC];split
  .have:=Ps k (eW 32 s).2.1;simp only[length_cons];omega
  .simp
theorem RG:∀(k:Nat) (s w:ev),w∈fC k s->w.length<=s.length
 |0,s,w,h=>by rw[mem_singleton.1 h];exact Nat.le_refl _
 |k+1,s,w,h=>by
  rw[fC]at h;split at h
  .have a:=CN 32 s;rcases mem_cons.1 h with rfl|h
   .exact a.1
   .exact Nat.le_trans (RG k _ w h) a.2.1
  .rw[mem_singleton.1 h];exact Nat.le_refl _
theorem Pq(k:Nat)(s:ev)(i:Nat):((fC k s).getD i []).length<=s.length:=by
 rw[getD_eq_getElem?_getD];cases h:(fC k s)[i]? with
 |none=>exact Nat.zero_le _
 |some w=>exact RG k s w (mem_of_getElem? h)
theorem uY(s:ev):(im s).1.length<=s.length:=by
 unfold im;cases xW s with
 |false=>exact Nat.zero_le _
 |true =>
  rw[cond_true];cases h:ud (gz s)with
  |none=>exact Nat.zero_le _
  |some t =>
   have a:=R5 h;have b:=sm t;have c:(gz s).length<=s.length:=by unfold gz;simp;omega
   show t.length<=s.length;rw[a]at b;omega
def jl(s:ev):aa×Bool :=
 bif decide (((fC 4 s).length:Int)<4)||decide (0<=iS [] 0 ((fC 4 s).take 4))then(aa.mk [] 0 [] [] [],false)else
 bif decide (iS ((fC 4 s).getD 1 []) 0 KW7<1)||!decide ((decide (iS ((fC 4 s).getD 1 []) 0 KW7=3))=(decide (((fC 4 s).length:Int)=5)))then(aa.mk [] 0 [] [] [],false)else
 bif !decide (iS ((fC 4 s).getD 1 []) 0 KW7=3)then(aa.mk ((fC 4 s).getD 0 []) (iS ((fC 4 s).getD 1 []) 0 KW7) ((fC 4 s).getD 2 []) ((fC 4 s).getD 3 []) [],true)else
 (aa.mk ((fC 4 s).getD 0 []) (iS ((fC 4 s).getD 1 []) 0 KW7) ((fC 4 s).getD 2 []) ((fC 4 s).getD 3 []) (im ((fC 4 s).getD 4 [])).1,decide ((im ((fC 4 s).getD 4 [])).2=0))
theorem iV{Z:Type}{l:List ev}{i:Nat}(h:i<l.length)(k:ev->Option Z):eL l (i:Int) k=k (l.getD i []):=by rw[mJ h,getD_eq_getElem?_getD,getElem?_eq_getElem h];rfl
theorem nn(s:ev)(b:s.length<=17179869184):Ir s=some (jl s):=by
 unfold Ir jl;rw[Pc s b,zf];have j:=Ps 4 s;have c:∀i,((fC 4 s).getD i []).length<=17179869184:=fun i=>Nat.le_trans (Pq 4 s i) b;generalize fC 4 s=W at j c|-;rw[zg (fun h=>by simp only[Bool.not_eq_true',decide_eq_false_iff_not]at h;omega)];by_cases d:((W.length:Int)<4)
 .rw[decide_eq_true d,Bool.not_true,C1,Bool.true_or,Bool.true_or,cond_true,cond_true]
 .rw[decide_eq_false d,Bool.not_false,yH,Sg,zf,Bool.false_or];cases p:decide (0<=iS [] 0 (W.take 4))with
  |true=>rfl
  |false =>
   rw[cond_false,cond_false];have e:=fun {Z:Type} (k:ev->Option Z)=>iV (l:=W) (i:=0) (by omega) k;have m:=fun {Z:Type} (k:ev->Option Z)=>iV (l:=W) (i:=1) (by omega) k;have n:=fun {Z:Type} (k:ev->Option Z)=>iV (l:=W) (i:=2) (by omega) k;have o:=fun {Z:Type} (k:ev->Option Z)=>iV (l:=W) (i:=3) (by omega) k;simp only[Int.ofNat_zero,Int.natCast_zero]at e;refine(e _).trans ?_;refine(m _).trans ?_;refine(n _).trans ?_;refine(o _).trans ?_;rw[Ml,zf,O5,zf];generalize iS (W.getD 1 []) 0 KW7=K;by_cases f:K<1
   .rw[decide_eq_true f,Bool.true_or];rfl
   .rw[decide_eq_false f,Bool.false_or];by_cases g:K=3
    .rw[decide_eq_true g];by_cases a:(W.length:Int)=5
     .rw[decide_eq_true a];simp only[decide_true,Bool.not_true,cond_false];refine(iV (l:=W) (i:=4) (by omega) _).trans ?_;rw[Uc _ (c 4),zf]
     .rw[decide_eq_false a];rfl
    .rw[decide_eq_false g];by_cases a:(W.length:Int)=5
     .rw[decide_eq_true a];rfl
     .rw[decide_eq_false a];rfl
theorem wC(s:ev)(b:s.length<=17179869184):qC (jl s).1:=by
 have a:=fun i=>Nat.le_trans (Pq 4 s i) b;have z:qC (aa.mk [] 0 [] [] []):=⟨Nat.zero_le _,Nat.zero_le _⟩;unfold jl;cases (decide (((fC 4 s).length:Int)<4)||decide (0<=iS [] 0 ((fC 4 s).take 4)))with
 |true=>exact z
 |false =>
  rw[cond_false];cases (decide (iS ((fC 4 s).getD 1 []) 0 KW7<1)||!decide ((decide (iS ((fC 4 s).getD 1 []) 0 KW7=3))=(decide (((fC 4 s).length:Int)=5))))with
  |true=>exact z
  |false =>
   rw[cond_false];cases !decide (iS ((fC 4 s).getD 1 []) 0 KW7=3)with
   |true=>exact⟨a 2,Nat.zero_le _⟩
   |false=>exact⟨a 2,Nat.le_trans (uY _) (a 4)⟩
def qt(t:ev):List ev->Nat->List aa->aj×Int×Int
 |[],i,o=>bif !decide (t=[])then(⟨[]⟩,(i:Int),8)else bif !decide (jG ⟨o⟩=0)then(⟨[]⟩,0,jG ⟨o⟩)else(⟨o⟩,0,0)
 |x::r,i,o=>bif !(jl x).2 then(⟨[]⟩,(i:Int),8)else qt t r (i+1) (o++[(jl x).1])
theorem qm(c:UInt8)(s:ev):∃L t,zQ c s=L++[t] :=
 ⟨(zQ c s).dropLast,(zQ c s).getLast (CS c s),(dropLast_concat_getLast (CS c s)).symm⟩
theorem pf(s:ev)(G:s.length<=4194304){L:List ev}{t:ev}(h:zQ 10 s=L++[t]):yJ s=some (qt t L 0 []):=by
 unfold yJ;rw[decide_eq_false (by omega),cond_false];obtain⟨N,j⟩:∃N,ff=N:=⟨_,rfl⟩;have y:1099511627776<=N:=j ▸ qM;rw[j];clear j;simp only[eJ];refine pq (S:=ev×Int×List aa) (fun c=>∃d:List ev,∃i:Nat,zQ 10 c.1=d++[t]/\c.2.1=(i:Int)/\i+c.1.length<=4194304/\qt t d i c.2.2=qt t L 0 []/\c.2.2.length<=i/\∀x∈c.2.2,qC x) (fun c=>c.1.length) (fun _=>some (qt t L 0 [])) ?_ N _ ⟨L,0,h,rfl,by simp only;omega,rfl,by simp,by simp⟩ (by simp only;omega);rintro⟨q,n,o⟩ nx ⟨d,i,b,rfl,z,g,A,k⟩ e;simp only at b z g A k e|-;rw[<-g];by_cases m:q=[]
 .subst m;have f:([]:ev)::[]=d++[t]:=b
  have B:d=[]:=by
   cases d with
   |nil=>rfl
   |cons a l=>simp at f
  subst B;have p:t=[]:=by simpa using f.symm
  subst p;rw[decide_eq_true rfl,Bool.not_true,cond_false,OV ⟨o⟩ k,zf];show _=some (bif !decide (([]:ev)=[])then _ else _);rw[decide_eq_true rfl,Bool.not_true,cond_false];exact qK _ _ _
 .rw[decide_eq_false m,Bool.not_false,cond_true,Fs q 10 (by omega),zf];have C:=CN 10 q;rw[nn _ (by omega),zf];by_cases r:(10:UInt8)∈q
  .obtain⟨u,H,I⟩:=uK r;rw[Ny,if_pos u]at b;cases d with
   |nil =>
    rw[nil_append,List.cons.injEq]at b;exact absurd b.2 (CS _ _)
   |cons a l =>
    rw[cons_append,List.cons.injEq]at b;obtain⟨v,D⟩:=b;rw[u,v];show _=some (bif !(jl a).2 then _ else qt t l (i+1) (o++[(jl a).1]));cases E:(jl a).2 with
    |false=>rfl
    |true =>
     have F:=C.2.2 u;rw[Bool.not_true,Bool.or_self,cond_false,cond_false,zg (by simp only[length_append,length_cons,length_nil];omega),fw i (by omega)];have w:qt t l (i+1) (o++[(jl a).1])=qt t (a::l) i o:=by
      show _=(bif !(jl a).2 then _ else qt t l (i+1) (o++[(jl a).1]));rw[E];rfl
     rw[w,g];refine e _ ⟨l,i+1,D,rfl,by simp only;omega,by rw[<-g];exact w,by simp only[length_append,length_cons,length_nil];omega,fun x hx=>?_⟩ (by simp only;omega);rcases mem_append.1 hx with hx|hx
     .exact k x hx
     .rw[mem_singleton.1 hx];exact wC a (by rw[<-v];omega)
  .rw[HV r];rw[C6 r]at b;cases d with
   |cons a l=>simp at b
   |nil =>
    have p:q=t:=by simpa using b
    subst p;show _=some (bif !decide (q=[])then _ else _);rw[decide_eq_false m];rfl
theorem FI(t:ev)(L:List ev)(i:Nat)(f:Int)(O:f=bif decide (t=[])then -1 else((i+L.length:Nat):Int))(o:List aa)(T:i+L.length<=4194305)(ho:o.length<=i)(Y:∀x∈o,qC x)(hL:∀x∈L,x.length<=4194304)(htl:t.length<=4194304) :
  forL (bif decide (t=[])then L else L++[t]) i (fun d C j w U =>
  call (Dc C ([32]:ev) 5) fun b =>
  eA ((!((decide ((d:Int)=f))||(decide ((b.length:Int)<4))))=true->(0<=4/\4<=(b.length:Int))) <|
  callG (!((decide ((d:Int)=f))||(decide ((b.length:Int)<4)))) (z6 (List.take 4 b) []) false fun D =>
  bif (((decide ((d:Int)=f))||(decide ((b.length:Int)<4)))||D)then
   some ((aj.mk []),(d:Int),(8:Int))
  else
  eL b 0 fun m =>
  eL b 1 fun E =>
  eL b 2 fun n =>
  eL b 3 fun p =>
  call (Gp) fun F =>
  call (z7 F E) fun c =>
  jp (S:=Bool×ev) (fun s=>match s with
   |(z,g) =>
    bif !z then
     some ((aj.mk []),(d:Int),(8:Int))
    else
    eA ((j++[(aa.mk m c n p g)]).length<=274877906944) <|
    w (j++[(aa.mk m c n p g)])) fun q =>
  bif (((decide (0<c))&&(decide ((decide ((b.length:Int)=5))=(decide (c=3)))))&&(decide ((b.length:Int)=5)))then
   eL b 4 fun G =>
   call (Gi G) fun u =>
   q (decide (u.2=0),u.1)
  else
  q (((decide (0<c))&&(decide ((decide ((b.length:Int)=5))=(decide (c=3))))),[])) o (fun v =>
  call (pt (aj.mk v)) fun A =>
  bif !decide (A=0)then
   some ((aj.mk []),(0:Int),A)
  else
  some ((aj.mk v),(0:Int),(0:Int)))=some (qt t L i o):=by
 induction L generalizing i o with
 |nil =>
  by_cases P:t=[]
  .rw[decide_eq_true P,cond_true];show call (pt (aj.mk o)) _=some (bif !decide (t=[])then _ else _);rw[decide_eq_true P,Bool.not_true,cond_false,BI ⟨o⟩ Y,zf];exact qK _ _ _
  .rw[decide_eq_false P,cond_false]at O|-;rw[nil_append];unfold forL;dsimp only;rw[Pc t (by omega),zf];have hi:decide ((i:Int)=f)=true:=decide_eq_true (by rw[O];simp);rw[hi,Bool.true_or,Bool.not_true,zg (fun h=>by cases h),C1];show _=some (bif !decide (t=[])then _ else _);rw[decide_eq_false P];rfl
 |cons x r ih =>
  have H:(bif decide (t=[])then x::r else x::r++[t])=x::(bif decide (t=[])then r else r++[t]):=by cases decide (t=[]) <;> rfl
  rw[H];unfold forL;dsimp only;have hx:=hL x (mem_cons_self ..);rw[Pc x (by omega),zf];have hi:decide ((i:Int)=f)=false:=by
   refine decide_eq_false fun e=>?_;rw[O]at e;cases hd:decide (t=[])with
   |true=>rw[hd,cond_true]at e;omega
   |false=>rw[hd,cond_false]at e;simp only[length_cons]at e;omega
  rw[hi];have hp:=Ps 4 x;have hu:∀i,((fC 4 x).getD i []).length<=17179869184:=fun i=>Nat.le_trans (Pq 4 x i) (by omega);have J:=wC x (by omega);have next:∀h:aa,h=(jl x).1->(jl x).2=true->_=_:=fun h V e2 =>
   ih (i+1) (by rw[O];cases decide (t=[]) <;> simp only[cond_true,cond_false,length_cons];omega) (o++[h]) (by simp only[length_cons]at T;omega) (by simp only[length_append,length_cons,length_nil];omega) (fun y I=>by
    rcases mem_append.1 I with I|I
    .exact Y y I
    .rw[mem_singleton.1 I,V];exact J) (fun y I=>hL y (mem_cons_of_mem _ I))
  have B:qt t (x::r) i o=bif !(jl x).2 then(⟨[]⟩,(i:Int),8)else qt t r (i+1) (o++[(jl x).1]):=rfl;rw[B];clear B;generalize a:jl x=Q at J next|-
  unfold jl at a;generalize fC 4 x=W at hp hu a|-;rw[Bool.false_or,zg (fun h=>by simp only[Bool.not_eq_true',decide_eq_false_iff_not]at h;omega)];by_cases R:((W.length:Int)<4)
  .rw[decide_eq_true R,Bool.not_true,C1,Bool.true_or,cond_true];rw[decide_eq_true R,Bool.true_or,cond_true]at a;rw[<-a];rfl
  .rw[decide_eq_false R,Bool.not_false,yH,Sg,zf,Bool.false_or];rw[decide_eq_false R,Bool.false_or]at a;cases hc:decide (0<=iS [] 0 (W.take 4))with
   |true =>
    rw[hc,cond_true]at a;rw[<-a];rfl
   |false =>
    rw[hc,cond_false]at a;rw[cond_false];have e0:=fun {Z:Type} (k:ev->Option Z)=>iV (l:=W) (i:=0) (by omega) k;have V:=fun {Z:Type} (k:ev->Option Z)=>iV (l:=W) (i:=1) (by omega) k;have e2:=fun {Z:Type} (k:ev->Option Z)=>iV (l:=W) (i:=2) (by omega) k;have e3:=fun {Z:Type} (k:ev->Option Z)=>iV (l:=W) (i:=3) (by omega) k;simp only[Int.ofNat_zero,Int.natCast_zero]at e0;refine(e0 _).trans ?_;refine(V _).trans ?_;refine(e2 _).trans ?_;refine(e3 _).trans ?_;rw[Mf,zf,O5,zf];simp only[eJ];generalize iS (W.getD 1 []) 0 KW7=K at a|-;by_cases h1:K<1
    .rw[decide_eq_true h1,Bool.true_or,cond_true]at a;rw[decide_eq_false (show ¬ 0<K by omega),Bool.false_and,Bool.false_and,cond_false,<-a];rfl
    .rw[decide_eq_false h1,Bool.false_or]at a;rw[decide_eq_true (show 0<K by omega),Bool.true_and];by_cases h3:K=3
     .rw[decide_eq_true h3]at a|-;by_cases M:(W.length:Int)=5
      .rw[decide_eq_true M]at a|-;simp only[decide_true,Bool.not_true,cond_false,Bool.and_self,cond_true]at a|-;refine(iV (l:=W) (i:=4) (by omega) _).trans ?_;rw[mr _ (hu 4),zf];cases hb:decide ((im (W.getD 4 [])).2=0)with
       |false=>rw[hb]at a;rw[<-a];rfl
       |true =>
        rw[hb]at a;rw[Bool.not_true,cond_false,zg (by simp only[length_append,length_cons,length_nil];simp only[length_cons]at T;omega)];have X:(⟨W.getD 0 [],K,W.getD 2 [],W.getD 3 [],(im (W.getD 4 [])).1⟩:aa)=Q.1:=by rw[<-a]
        have N:Q.2=true:=by rw[<-a]
        rw[N,Bool.not_true,cond_false,X];exact next _ rfl N
      .rw[decide_eq_false M]at a|-;simp only[show(decide (true=false))=false from rfl,show(decide (false=true))=false from rfl,Bool.not_false,cond_true,Bool.false_and,cond_false]at a|-;rw[<-a];rfl
     .rw[decide_eq_false h3]at a|-;by_cases M:(W.length:Int)=5
      .rw[decide_eq_true M]at a|-;simp only[show(decide (true=false))=false from rfl,show(decide (false=true))=false from rfl,Bool.not_false,cond_true,Bool.false_and,cond_false]at a|-;rw[<-a];rfl
      .rw[decide_eq_false M]at a|-;simp only[decide_true,Bool.not_true,Bool.not_false,cond_false,cond_true,Bool.and_false]at a|-;rw[zg (by simp only[length_append,length_cons,length_nil];simp only[length_cons]at T;omega)];have X:(⟨W.getD 0 [],K,W.getD 2 [],W.getD 3 [],[]⟩:aa)=Q.1:=by rw[<-a]
       have N:Q.2=true:=by rw[<-a]
       rw[N,Bool.not_true,cond_false,X];exact next _ rfl N
theorem xK(s:ev)(b:s.length<=4194304){L:List ev}{t:ev}(h:zQ 10 s=L++[t]):CZ s=some (qt t L 0 []):=by
 unfold CZ;rw[decide_eq_false (by omega),cond_false,tD s b h,zf];simp only[eJ];have e:=NK 10 s;have f:=count_le_length (a:=(10:UInt8)) (l:=s);rw[h,length_append,length_singleton]at e;have d:∀x∈L++[t],x.length<=4194304:=fun x hx=>Nat.le_trans (NH (c:=10) (by rw[h];exact hx)) b;have g:(bif decide (t=[])then(L,(-1:Int))else(L++[t],(L.length:Int))).1=bif decide (t=[])then L else L++[t]:=by cases decide (t=[]) <;> rfl
 have i:(bif decide (t=[])then(L,(-1:Int))else(L++[t],(L.length:Int))).2=bif decide (t=[])then -1 else((0+L.length:Nat):Int):=by cases decide (t=[]) <;> simp
 rw[g];exact FI t L 0 _ i [] (by omega) (by simp) (by simp) (fun x hx=>d x (mem_append_left _ hx)) (d t (by simp))
theorem p8(s:ev)(a:s.length<=274877906944):∃r,yJ s=some r/\CZ s=some r:=by
 by_cases h:s.length<=4194304
 .obtain⟨L,t,e⟩:=qm 10 s;exact⟨_,pf s h e,xK s h e⟩
 .refine⟨(⟨[]⟩,0,4),?_,?_⟩
  .unfold yJ;rw[decide_eq_true (by omega),cond_true]
  .unfold CZ;rw[decide_eq_true (by omega),cond_true]
theorem pG{A Z:Type}{g:A->ev}{f:Nat->A->ev->(ev->Option Z)->(ev->Option Z)->Option Z}{k:ev->Option Z}(B:Nat) :
  ∀(l:List A) (i:Nat) (o:ev),(∀i x o nx q,x∈l->(g x).length<=B->o.length+(g x).length+1<=274877906000->f i x o nx q=nx (o++(g x++[10])))->(∀x∈l,(g x).length<=B)->o.length+(jI (l.map g)).length<=274877906000->forL l i f o k=k (o++jI (l.map g))
 |[],i,o,_,_,_=>by simp[forL,jI]
 |x::l,i,o,b,c,d=>by
  have e:o.length+((g x).length+1+(jI (l.map g)).length)<=274877906000:=by
   have:jI ((x::l).map g)=(g x++[10])++jI (l.map g):=by simp[jI]
   rw[this]at d;simp only[length_append,length_cons,length_nil]at d;omega
  unfold forL;rw[b i x o _ _ (mem_cons_self ..) (c x (mem_cons_self ..)) (by omega),pG B l (i+1) _ (fun i y o nx q a=>b i y o nx q (mem_cons_of_mem _ a)) (fun y a=>c y (mem_cons_of_mem _ a)) (by simp only[length_append,length_cons,length_nil];omega)];congr 1;simp[jI]
theorem jM(B:Nat):∀(L:List ev),(∀l∈L,l.length<=B)->(jI L).length<=L.length*(B+1)
 |[],_=>by simp[jI]
 |l::L,h=>by
  have a:=h l (mem_cons_self ..);have b:=jM B L fun x hx=>h x (mem_cons_of_mem _ hx);have:jI (l::L)=(l++[10])++jI L:=by simp[jI]
  rw[this,length_append,length_append,show(l::L).length=L.length+1 from rfl,Nat.add_mul];simp only[length_cons,length_nil];omega
structure Rt(h:aa):Prop where
 o:fY h.r=true
 k:1<=h.g/\h.g<=6
 p:named h.g h.a=true
 s:sA h.y=true
 b:h.g≠3->h.A=[]
theorem Kc{h:aa}(e:xU h=0):Rt h:=by
 unfold xU at e;cases d:fY h.r with
 |false=>rw[d]at e;cases e
 |true =>
 rw[d,Bool.not_true,cond_false]at e;cases b:ke h.g with
 |false=>rw[b]at e;cases e
 |true =>
 rw[b,Bool.not_true,cond_false]at e;cases f:named h.g h.a with
 |false=>rw[f]at e;cases e
 |true =>
 rw[f,Bool.not_true,cond_false]at e;cases c:oO h with
 |true=>rw[c]at e;cases e
 |false =>
 unfold oO at c;simp only[Bool.or_eq_false_iff]at c;unfold ke at b;simp only[Bool.and_eq_true,decide_eq_true_eq]at b;refine⟨d,b,f,by simpa using c.1.1,fun i=>?_⟩;have:=c.1.2;rw[decide_eq_false i]at this;simpa using this
theorem Mw{k:aj}(e:jG k=0):∀x∈k.q,Rt x:=by
 unfold jG at e;by_cases c:5000<(k.q.length:Int)
 .rw[decide_eq_true c]at e;cases e
 rw[decide_eq_false c,cond_false]at e;by_cases a:iq (iu k.q) 0 k.q=0
 .intro x hx;obtain⟨j,d,rfl⟩:=mem_iff_getElem.1 hx;have:=O0 _ _ _ a j d;unfold iu at this;by_cases b:xU k.q[j]=0
  .exact Kc b
  .rw[decide_eq_false b]at this;exact absurd this b
 .rw[decide_eq_false a]at e;exact absurd e a
def pF(k:Int):ev:=KW7.getD k.toNat []
def jH(h:aa):ev:=h.r++32::(pF h.g++32::(h.a++32::(h.y++bif decide (h.g=3)then 32::jJ h.A else [])))
def uc(l:List aa):ev:=jI (l.map jH)
theorem qn{k:Int}(h:1<=k/\k<=6):k=1∨k=2∨k=3∨k=4∨k=5∨k=6:=by omega
theorem F9{k:Int}(h:1<=k/\k<=6):iS (pF k) 0 KW7=k/\(pF k).length<=7/\pF k≠[]/\(32:UInt8)∉pF k/\(10:UInt8)∉pF k:=by rcases qn h with rfl|rfl|rfl|rfl|rfl|rfl <;> exact⟨by decide,by decide,by decide,by decide,by decide⟩
theorem vg{s:ev}(h:sA s=true){b:UInt8}(a:mW b=false):b∉s:=by
 intro c;unfold sA at h;simp only[Bool.and_eq_true,all_eq_true]at h;rw[h.1 b c]at a;cases a
theorem My{s:ev}(h:sA s=true):s.length=16:=by unfold sA at h;simp only[Bool.and_eq_true,decide_eq_true_eq]at h;omega
theorem nE{k:Int}{p:ev}(h:named k p=true){b:UInt8}(d:qJ b=false)(e:ym b=false)(a:b≠47):b∉p:=by
 unfold named at h;cases c:decide (k=6)with
 |true=>rw[c]at h;exact lr h d
 |false=>rw[c]at h;exact Ag h e a
theorem wa{k:Int}{p:ev}(h:named k p=true):p≠[]:=by
 unfold named at h;cases a:decide (k=6)with
 |true=>rw[a]at h;exact rB h
 |false=>rw[a]at h;exact Ah h
theorem ME{p:ev}(h:fY p=true):p.length<=40:=by unfold fY at h;simp only[Bool.and_eq_true,decide_eq_true_eq]at h;omega
theorem OS{k:Int}{p:ev}(h:named k p=true):p.length<=200:=by
 unfold named at h;cases a:decide (k=6)with
 |true=>rw[a]at h;have:=ME h;omega
 |false =>
  rw[a,cond_false]at h;unfold fS at h;simp only[Bool.and_eq_true,decide_eq_true_eq]at h;omega
theorem ON{h:aa}(r:Rt h):(jH h).length<=300+4*h.A.length:=by
 have a:=ME r.o;have b:=(F9 r.k).2.1;have c:=OS r.p;have d:=My r.s;have e:=Pm h.A;unfold jH;cases decide (h.g=3) <;> simp only[cond_true,cond_false,length_append,length_cons,length_nil] <;> omega
theorem ta{h:aa}(r:Rt h):(10:UInt8)∉jH h:=by
 have a:=lr r.o (b:=10) (by decide);have c:=(F9 r.k).2.2.2.2;have d:=nE r.p (b:=10) (by decide) (by decide) (by decide);have e:=vg r.s (b:=10) (by decide);have f:=p6 h.A;unfold jH;cases decide (h.g=3) <;> simp only[cond_true,cond_false,mem_append,mem_cons,not_mem_nil,or_false,not_or]
 .exact⟨a,by decide,c,by decide,d,by decide,e⟩
 .exact⟨a,by decide,c,by decide,d,by decide,e,by decide,f⟩
theorem Nm{a:ev}(h:(32:UInt8)∉a)(k:Nat)(b:ev):fC (k+1) (a++32::b)=a::fC k b:=by rw[fC,if_pos (by simp),ky h]
theorem pU{h:aa}(r:Rt h):fC 4 (jH h)=[h.r,pF h.g,h.a,h.y]++bif decide (h.g=3)then [jJ h.A]else []:=by
 have d:=lr r.o (b:=32) (by decide);have e:=(F9 r.k).2.2.2.1;have f:=nE r.p (b:=32) (by decide) (by decide) (by decide);have c:=vg r.s (b:=32) (by decide);unfold jH;rw[Nm d,Nm e,Nm f];cases decide (h.g=3)with
 |true=>rw[cond_true,cond_true,Nm c];rfl
 |false=>rw[cond_false,cond_false,append_nil,R3 c];rfl
theorem AO{h:aa}(r:Rt h):jl (jH h)=(h,true):=by
 have e:=pU r;obtain⟨f,t,i,_⟩:=F9 r.k;have j:=rB r.o;have m:=wa r.p;have n:h.y≠[]:=fun e=>by have:=My r.s;rw[e]at this;cases this
 have d:∀l:List ev,iS [] 0 (List.take 4 ([h.r,pF h.g,h.a,h.y]++l))=-1:=by
  intro l;show iS [] 0 [h.r,pF h.g,h.a,h.y]=-1;simp only[iS];rw[decide_eq_false (Ne.symm j),decide_eq_false (Ne.symm i),decide_eq_false (Ne.symm m),decide_eq_false (Ne.symm n)];rfl
 have q:=r.b;obtain⟨O,K,P,S,B⟩:=h;simp only at *;unfold jl;rw[e,d];by_cases c:K=3
 .subst c;simp only[decide_true,cond_true,cons_append,nil_append,length_cons,length_nil,getD_cons_zero,getD_cons_succ];rw[f,sJ];rfl
 .rw[q c];simp only[decide_eq_false c,cond_false,cons_append,nil_append,length_cons,length_nil,getD_cons_zero,getD_cons_succ,append_nil];rw[f,decide_eq_false c,decide_eq_false (show ¬ K<1 by have:=r.k;simp only at this;omega)];rfl
theorem nZ:∀(l:List aa) (i:Nat) (o:List aa),(∀x∈l,Rt x)->qt [] (l.map jH) i o=bif !decide (jG ⟨o++l⟩=0)then(⟨[]⟩,0,jG ⟨o++l⟩)else(⟨o++l⟩,0,0)
 |[],i,o,_=>by
  rw[append_nil];show(bif !decide (([]:ev)=[])then _ else _)=_;rw[decide_eq_true rfl];rfl
 |x::l,i,o,h=>by
  show(bif !(jl (jH x)).2 then _ else qt [] (l.map jH) (i+1) (o++[(jl (jH x)).1]))=_;rw[AO (h x (mem_cons_self ..))];have:=nZ l (i+1) (o++[x]) fun y a=>h y (mem_cons_of_mem _ a);rw[append_assoc]at this;exact this
theorem p7{k:aj}(e:jG k=0)(b:(uc k.q).length<=4194304):yJ (uc k.q)=some (k,0,0):=by
 have a:=Mw e;have c:zQ 10 (uc k.q)=k.q.map jH++[[]]:=RH _ fun x hx=>by obtain⟨y,d,rfl⟩:=mem_map.1 hx;exact ta (a y d)
 rw[pf _ b c,nZ _ _ _ a,nil_append,e];rfl
section
variable {k:aj}
theorem Oz{B:Nat}(e:jG k=0)(b:∀x∈k.q,x.A.length<=B):(uc k.q).length<=5000*(301+4*B):=by
 have c:=Mw e;have d:=(CR e).n;have f:=jM (300+4*B) (k.q.map jH) fun x hx=>by obtain⟨y,a,rfl⟩:=mem_map.1 hx;have:=ON (c y a);have:=b y a;omega
 rw[length_map]at f;have g:k.q.length*(300+4*B+1)<=5000*(300+4*B+1):=Nat.mul_le_mul_right _ d;unfold uc;omega
theorem nR{h:aa}(r:Rt h){Z:Type}(q:ev->Option Z):eL KW7 h.g q=q (pF h.g):=by have a:=r.k;unfold pF;generalize h.g=K at a|-;obtain⟨n,rfl⟩:=Int.eq_ofNat_of_zero_le (show 0<=K by omega);exact iV (l:=KW7) (i:=n) (by show n<7;omega) q
theorem su(e:jG k=0)(c:∀x∈k.q,x.A.length<=1048576):C0 k=some (uc k.q):=by
 have d:=Mw e;have j:=Oz e c;unfold C0;simp only[eJ];refine(pG 4194700 (g:=jH) k.q 0 [] (fun i x o nx q hx l b=>?_) (fun x hx=>?_) (by unfold uc at j;simp only[length_nil];omega)).trans ?_
 .have r:=d x hx;have m:=ME r.o;have n:=(F9 r.k).2.1;have t:=OS r.p;have u:=My r.s;have v:=Pm x.A;have w:=c x hx;rw[zg (by simp;omega),Mf,zf,nR r,zg (by simp;omega),zg (by simp;omega),zg (by simp;omega),zg (by simp;omega),zg (by simp;omega),CL _ _ (by simp;omega),zf];have a:=l;unfold jH at a b|-
  have f:∀q:ev,q.length<=274877906000->I2 10 q=some (q++[10]):=fun q y=>by
   unfold I2 I3;rw[zf,zg (by simp[Go.Vc.strOf];omega)];rfl
  cases h:decide (x.g=3)with
  |true =>
   rw[h]at a b;simp only[cond_true,length_append,length_cons]at a b;rw[cond_true,cond_true,Ri _ (by omega),zf,zg (by simp;omega),CL _ _ (by simp;omega),zf,f _ (by simp;omega),zf];refine congrArg nx ?_;simp
  |false =>
   rw[h]at a b;simp only[cond_false,length_append,length_cons,length_nil]at a b;rw[cond_false,cond_false,f _ (by simp;omega),zf];refine congrArg nx ?_;simp
 .have:=ON (d x hx);have:=c x hx;omega
 .rw[nil_append];rfl
theorem Bq(e:jG k=0)(j:∀x∈k.q,qC x)(d:∀x∈k.q,x.A.length<=1048576):CQ k=some (bif decide (4194304<((uc k.q).length:Int))then([],4)else(uc k.q,0)):=by
 have f:=Mw e;have l:=Oz e d;unfold CQ;rw[OV k j,zf,e,decide_eq_true rfl,Bool.not_true,cond_false];simp only[eJ];refine(pG 4194700 (g:=jH) k.q 0 [] (fun i x o nx q hx m c=>?_) (fun x hx=>?_) (by unfold uc at l;simp only[length_nil];omega)).trans ?_
 .have r:=f x hx;have n:=ME r.o;have t:=(F9 r.k).2.1;have u:=OS r.p;have v:=My r.s;have w:=Pm x.A;have z:=d x hx;rw[Ml,zf,nR r];have b:=m;unfold jH at b c|-;cases h:decide (x.g=3)with
  |true =>
   rw[h]at b c;simp only[cond_true,length_append,length_cons]at b c;rw[cond_true,cond_true,Tr _ (by omega),zf,zg (by simp)];rw[show([x.r,pF x.g,x.a,x.y]++[jJ x.A]:List ev)=x.r::[pF x.g,x.a,x.y,jJ x.A]from rfl,lJ _ _ _ (by decide) (by simp) (by simp;omega),zf,zg (by simp;omega),CL _ _ (by simp;omega),zf];refine congrArg nx ?_;simp
  |false =>
   rw[h]at b c;simp only[cond_false,length_append,length_cons,length_nil]at b c;rw[cond_false,cond_false];rw[show([x.r,pF x.g,x.a,x.y]:List ev)=x.r::[pF x.g,x.a,x.y]from rfl,lJ _ _ _ (by decide) (by simp) (by simp;omega),zf,zg (by simp;omega),CL _ _ (by simp;omega),zf];refine congrArg nx ?_;simp
 .have:=ON (f x hx);have:=d x hx;omega
 .rw[nil_append,show Df (jI (List.map jH k.q))=some ((jI (List.map jH k.q)).length:Int)from rfl,zf];exact qK _ _ _
end
theorem jP(k:aj):Gx k k=some true:=by unfold Gx;rw[Fj,zf]
theorem Mm{k:aj}(a:∀x∈k.q,qC x)(e:jG k≠0):CQ k=some ([],jG k):=by unfold CQ;rw[OV k a,zf,decide_eq_false e];rfl
theorem p3(s o:ev):(Go.Lib.replace s o [] 1).length<=s.length:=by
 unfold Go.Lib.replace;split
 .exact Nat.le_refl _
 .exact PE o [] (Nat.zero_le _) _ s
theorem Eu(k:aj)(w:∀h∈k.q,qC h)(B:∀h∈k.q,h.A.length<=1048576)(m:ak)(C:GW m)(l:List ax)(D:∀b∈l,Br b)(c:ev)(E:c.length<=274877906944):ID k m l c=some true:=by
 suffices h:Ends (ID k m l c) fun z=>z=true by obtain⟨z,e,rfl⟩:=h;exact e
 unfold ID;rw[td,zf];refine Ends.call (wM m C) fun H n=>?_;refine Ends.call (vi Km n.good l D) fun r F=>⟨true,?_,rfl⟩;obtain⟨I,j⟩:=F;have o:=fun x hx=>(j.k x hx).d;have u:=Oz j.e o;simp only[eJ];refine Hq (fun _ q _=>∀x∈q,(∀h∈x.q,qC h)/\∀h∈x.q,h.A.length<=1048576) (fun _ _ _=>some true) (fun i s h=>?_) (fun i x q s nx h f=>?_) [k,r.2] 0 () (fun x hx=>?_)
 .rw[su j.e (fun x hx=>Nat.le_trans (o x hx) (by decide)),zf];unfold strings_Replace;rw[zg ⟨by omega,Nat.le_refl _⟩,zf];refine Hq (fun _ q _=>∀x∈q,x.length<=274877906944) (fun _ _ _=>some true) (fun i s h=>rfl) (fun i x q s nx h f=>?_) _ 0 () (fun x hx=>?_)
  .obtain⟨z,a,b⟩:=p8 x (h x (mem_cons_self ..));rw[a,zf,b,zf,decide_eq_true rfl,decide_eq_true rfl,jP];exact f () fun y p=>h y (mem_cons_of_mem _ p)
  .rcases mem_cons.1 hx with rfl|hx
   .exact E
   .rw[mem_singleton.1 hx];have:=p3 (uc r.2.q) c;omega
 .obtain⟨t,v⟩:=h x (mem_cons_self ..);have next:=f () fun y p=>h y (mem_cons_of_mem _ p)
  rw[BI x t];by_cases e:jG x=0
  .rw[Bq e t v,zf,zf,e,decide_eq_true rfl,Bool.not_true,cond_false,su e v,zf];by_cases g:(4194304:Int)<((uc x.q).length:Int)
   .rw[decide_eq_true g,cond_true,cond_true];exact next
   .rw[decide_eq_false g,cond_false,cond_false];rw[p7 e (by omega),zf];simp only[decide_true,Bool.not_true,Bool.not_false,yH,zf,fK,Bool.or_self,jP,cond_false];exact next
  .rw[Mm t e,zf,zf,decide_eq_false e,Bool.not_false,cond_true,decide_eq_true rfl,decide_eq_true rfl];exact next
 .rcases mem_cons.1 hx with rfl|hx
  .exact⟨w,B⟩
  .rw[mem_singleton.1 hx];exact⟨j.s,fun h G=>Nat.le_trans (o h G) (by decide)⟩
end Go.Md

