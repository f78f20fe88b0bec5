/- Plain lemmas on the models: the law's model answers true (second part). -/
import Derived.Test.YtkojogldchfkkaaGreatDoorScPl
set_option linter.unusedSimpArgs false
set_option linter.unusedVariables false
open List
namespace Go.Md
open Go.Vc
def fq(p d:eA):Bool:=decide (p.take (d.length+1)=d++[47])
theorem LM{p d:eA}(h:fq p d=true):∃r,p=d++47::r:=by
 have:=of_decide_eq_true h;refine⟨p.drop (d.length+1),?_⟩
 conv=>lhs;rw[<-take_append_drop (d.length+1) p,this]
 simp
theorem yW(d r:eA):fq (d++47::r) d=true:=by
 unfold fq;rw[decide_eq_true_eq,show d.length+1=(d++[47]).length by simp,show d++47::r=(d++[47])++r by simp,take_left]
theorem lA{p d:eA}(h:fq p d=true):d<p:=by
 obtain⟨r,rfl⟩:=LM h;exact y4 _ _ (by simp)
theorem undB_at{p d:eA}:fq p d=true↔∃i,∃h:i<p.length,p[i]=47/\d=p.take i:=by
 constructor
 .intro h
  obtain⟨r,rfl⟩:=LM h;exact⟨d.length,by simp,by simp,by simp⟩
 .rintro⟨i,h,h1,rfl⟩
  have:p=p.take i++47::p.drop (i+1):=by
   rw[<-h1,<-drop_eq_getElem_cons h,take_append_drop]
  conv=>lhs;arg 1;rw[this]
  exact yW _ _
theorem LN(p d:eA)(h:d.length<274877906944):yD p d=some (fq p d):=by
 unfold yD z8 F1 fq
 have hl:(d++[47]).length=d.length+1:=by simp
 rw[zg (by rw[hl];omega),zg (by intro h;simp only[decide_eq_true_eq]at h;omega)];simp only[ze,hl]
 congr 1
 by_cases hp:d.length+1<=p.length
 .rw[decide_eq_true (by omega:((d.length+1:Nat):Int)<=(p.length:Int)),Bool.true_and]
 .rw[decide_eq_false (by omega),Bool.false_and,eq_comm,decide_eq_false_iff_not]
  intro e;have:=congrArg List.length e;simp only[length_take,hl]at this;omega
theorem Lz{α:Type}{q:Nat->α->Bool}:∀(l:List α) (i:Nat),jY q i l=true↔∀j (h:j<l.length),q (i+j) l[j]=true
 |[],i=>by simp[jY]
 |x::l,i=>by
  unfold jY;rw[Bool.and_eq_true,Lz l (i+1)];constructor
  .rintro⟨h1,h2⟩ j hj
   cases j with
   |zero=>exact h1
   |succ j=>have:=h2 j (by simpa using hj);rw[show i+(j+1)=i+1+j by omega];exact this
  .intro h
   refine⟨h 0 (by simp),fun j hj=>?_⟩;have:=h (j+1) (by simpa using hj)
   rw[show i+1+j=i+(j+1)by omega];exact this
theorem rU(m:Mp)(p:eA):yf m p=true↔∀d,fq p d=true->(zp m d).getD false=false:=by
 unfold yf;rw[Lz];constructor
 .intro h d hd
  obtain⟨i,hi,h1,rfl⟩:=undB_at.1 hd;have:=h i hi;unfold g4 at this;rw[Nat.zero_add,h1]at this
  simpa using this
 .intro h j hj
  unfold g4;rw[Nat.zero_add]
  cases hc:decide ((p[j].toNat:Int)=47)with
  |false=>rfl
  |true =>
   have h1:p[j]=47:=by
    have h2:p[j].toNat=47:=by simp only[decide_eq_true_eq]at hc;omega
    exact UInt8.toNat.inj h2
   rw[h _ (undB_at.2 ⟨j,hj,h1,rfl⟩)];rfl
theorem DM(i:Nat)(a b:eA):ord i a b=(decide (0<i)&&!decide (b<a)):=by
 unfold ord mZ;rw[mY]
 congr 1
 .exact decide_eq_decide.2 (by omega)
 .rw[Bool.eq_iff_iff]
  simp only[Bool.or_eq_true,decide_eq_true_eq,Bool.not_eq_true',decide_eq_false_iff_not];constructor
  .rintro(h|rfl)
   .exact xZ h
   .exact EQ _
  .intro h
   rcases A9 a b with h1|h1|h1
   .exact .inl h1
   .exact .inr h1
   .exact absurd h1 h
section
variable {α:Type} {nm:α->eA}
def Hd(nm:α->eA)(i:Nat)(last:eA):List α->Prop
 |[]=>True
 |x::_=>0<i->last<nm x
theorem m5{x:α}{l:List α}{i:Nat}:eW nm (x::l)↔Hd nm (i+1) (nm x) l/\eW nm l:=by
 unfold eW;rw[pairwise_cons]
 cases l with
 |nil=>simp[Hd]
 |cons y l =>
  simp only[Hd];constructor
  .rintro⟨h1,h2⟩;exact⟨fun _=>h1 y (mem_cons_self ..),h2⟩
  .rintro⟨h1,h2⟩
   refine⟨fun z hz=>?_,h2⟩
   rcases mem_cons.1 hz with rfl|hz
   .exact h1 (by omega)
   .exact Bk (h1 (by omega)) ((pairwise_cons.1 h2).1 z hz)
theorem ord_false{i:Nat}{x:α}{l:List α}{last:eA}:ord i (nm x) last=false↔Hd nm i last (x::l):=by
 rw[DM];simp only[Hd,Bool.and_eq_false_iff,decide_eq_false_iff_not,Bool.not_eq_false',decide_eq_true_eq];constructor
 .rintro(h|h)
  .intro h';exact absurd h' h
  .exact fun _=>h
 .intro h
  by_cases hi:0<i
  .exact .inr (h hi)
  .exact .inl hi
theorem Ot{e:α->Int}:∀(l:List α) (i:Nat) (last:eA),iw e nm i last l=0↔(∀x∈l,e x=0)/\eW nm l/\Hd nm i last l
 |[],i,last=>by simp[iw,eW,Hd]
 |x::l,i,last=>by
  unfold iw
  by_cases h:e x=0
  .rw[decide_eq_true h,Bool.not_true,cond_false]
   cases ho:ord i (nm x) last with
   |true =>
    have:¬ Hd nm i last (x::l):=fun hh=>by rw[ord_false.2 hh]at ho;cases ho
    simp[this]
   |false =>
    have hh:=(ord_false (l:=l)).1 ho;rw[cond_false,Ot l,m5 (i:=i)];simp only[mem_cons,forall_eq_or_imp,h,true_and,hh,and_true];constructor
    .rintro⟨h1,h2,h3⟩;exact⟨h1,h3,h2⟩
    .rintro⟨h1,h3,h2⟩;exact⟨h1,h2,h3⟩
  .rw[decide_eq_false h,Bool.not_false,cond_true]
   simp[h]
end
theorem On:∀(l:List ab) (i:Nat) (last:eA) (m:Mp),uM i last m l=0 ↔
  (∀x∈l,iv x=0)/\eW (·.a) l/\Hd (·.a) i last l/\(∀x∈l,∀d,fq x.a d=true->(zp m d).getD false=false)/\l.Pairwise fun y x=>fq x.a y.a=false
 |[],i,last,m=>by simp[uM,eW,Hd]
 |x::l,i,last,m=>by
  unfold uM
  by_cases h:iv x=0
  .rw[decide_eq_true h,Bool.not_true,cond_false]
   cases ho:ord i x.a last with
   |true =>
    have:¬ Hd (·.a) i last (x::l):=fun hh=>by rw[(ord_false (nm:=fun x:ab=>x.a)).2 hh]at ho;cases ho
    simp[this]
   |false =>
    have hh:=(ord_false (nm:=fun x:ab=>x.a) (l:=l)).1 ho;rw[cond_false]
    cases ha:yf m x.a with
    |false =>
     have:¬ ∀d,fq x.a d=true->(zp m d).getD false=false:=fun hh=>by rw[(rU m x.a).2 hh]at ha;cases ha
     rw[Bool.not_false,cond_true];simp[this]
    |true =>
     have ha':=(rU m x.a).1 ha;rw[Bool.not_true,cond_false,On l,m5 (i:=i),pairwise_cons];simp only[mem_cons,forall_eq_or_imp,h,true_and,hh];constructor
     .rintro⟨h1,h2,h3,h4,h5⟩
      refine⟨h1,⟨h3,h2⟩,⟨ha',fun y hy d hd=>?_⟩,fun y hy=>?_,h5⟩
      .have:=h4 y hy d hd
       rw[ut]at this;split at this
       .cases this
       .exact this
      .cases hu:fq y.a x.a with
       |false=>rfl
       |true =>
        have:=h4 y hy _ hu;rw[ut,if_pos rfl]at this;cases this
     .rintro⟨h1,⟨h3,h2⟩,⟨_,h4⟩,h6,h5⟩
      refine⟨h1,h2,h3,fun y hy d hd=>?_,h5⟩;rw[ut];split
      .rename_i e
       subst e
       rw[h6 y hy]at hd;cases hd
      .exact h4 y hy d hd
  .rw[decide_eq_false h,Bool.not_false,cond_true]
   simp[h]
structure Good(m:ai):Prop where
 c1:m.m.length<=100
 c2:m.b.length<=2000
 c3:m.i.length<=2000
 c4:m.h.length<=100
 f1:∀x∈m.m,uh x=0
 f2:eW (·.e) m.m
 g1:∀x∈m.b,iv x=0
 g2:eW (·.a) m.b
 g3:∀x∈m.b,∀y∈m.b,fq x.a y.a=false
 s1:∀x∈m.i,jJ x=0
 s2:eW (·.e) m.i
 v1:∀x∈m.h,jZ x=0
 v2:eW (·.j) m.h
theorem F6{α:Type}{nm:α->eA}{l:List α}{last:eA}:Hd nm 0 last l:=by
 cases l with
 |nil=>trivial
 |cons x l=>intro h;omega
theorem vY(a b:Int):gP a b=0↔a=0/\b=0:=by
 unfold gP
 by_cases h:a=0
 .simp[h]
 .rw[decide_eq_false h,Bool.not_false,cond_true]
  simp[h]
theorem vM{l:List ab}(hs:eW (·.a) l):(l.Pairwise fun y x=>fq x.a y.a=false)↔∀x∈l,∀y∈l,fq x.a y.a=false:=by
 constructor
 .intro h
  induction l with
  |nil=>intro x hx;cases hx
  |cons z l ih =>
   have hs':=pairwise_cons.1 hs;have h':=pairwise_cons.1 h
   have irr:∀p:eA,fq p p=false:=fun p=>by
    cases hu:fq p p with
    |false=>rfl
    |true=>exact absurd (lA hu) (EQ _)
   have asy:∀a b:eA,a<b->fq a b=false:=fun a b hab=>by
    cases hu:fq a b with
    |false=>rfl
    |true=>exact absurd (lA hu) (xZ hab)
   intro x hx y hy
   rcases mem_cons.1 hx with e|hx' <;> rcases mem_cons.1 hy with e'|hy'
   .rw[e,e'];exact irr _
   .subst e;exact asy _ _ (hs'.1 y hy')
   .subst e';exact h'.1 x hx'
   .exact ih hs'.2 h'.2 x hx' y hy'
 .intro h
  exact pairwise_iff_forall_sublist.2 fun {a b} hab=>h b (hab.subset (by simp)) a (hab.subset (by simp))
theorem xX(m:ai):yv m=0↔Good m:=by
 unfold yv
 cases hB:(((decide (100<(m.m.length:Int)))||(decide (2000<(m.b.length:Int))))||(decide (2000<(m.i.length:Int))))||(decide (100<(m.h.length:Int)))with
 |true =>
  simp only[cond_true];simp only[Bool.or_eq_true,decide_eq_true_eq]at hB;constructor
  .intro h;cases h
  .intro h
   have:=h.c1;have:=h.c2;have:=h.c3;have:=h.c4;omega
 |false =>
  simp only[Bool.or_eq_false_iff,decide_eq_false_iff_not]at hB;simp only[cond_false,vY,Ot,On];constructor
  .rintro⟨⟨a1,a2,_⟩,⟨b1,b2,_,_,b3⟩,⟨d1,d2,_⟩,e1,e2,_⟩
   exact⟨by omega,by omega,by omega,by omega,a1,a2,b1,b2,(vM b2).1 b3,d1,d2,e1,e2⟩
  .intro h
   exact⟨⟨h.f1,h.f2,F6⟩,⟨h.g1,h.g2,F6,fun _ _ _ _=>rfl,(vM h.g2).2 h.g3⟩,⟨h.s1,h.s2,F6⟩,h.v1,h.v2,F6⟩
theorem qN{p:eA}(h:gp p=true):p.length<=200:=by
 unfold gp at h;simp only[Bool.and_eq_true,decide_eq_true_eq]at h;omega
theorem x7{f:ab}(h:iv f=0):gp f.a=true/\f.q.length<=65536:=by
 unfold iv at h
 cases hp:gp f.a <;> rw[hp]at h
 .cases h
 .simp only[Bool.not_true,cond_false]at h
  by_cases hd:65536<(f.q.length:Int)
  .rw[decide_eq_true hd]at h;cases h
  .exact⟨rfl,by omega⟩
theorem JM{s:aa}(h:jJ s=0):gp s.e=true/\pt s.Value=true:=by
 unfold jJ at h
 cases hp:gp s.e <;> cases hv:pt s.Value <;> rw[hp,hv]at h <;> first|cases h;done|exact⟨rfl,rfl⟩
theorem J6{s:ah}(h:jZ s=0):gj s.j=true/\gp s.a=true:=by
 unfold jZ at h
 cases hp:gj s.j <;> cases hv:gp s.a <;> rw[hp,hv]at h <;> first|cases h;done|exact⟨rfl,rfl⟩
theorem OB{p:eA}(h:gj p=true):p.length<=40:=by
 unfold gj at h;simp only[Bool.and_eq_true,decide_eq_true_eq]at h;omega
theorem mR{p:eA}(h:pt p=true):p.length<=1000:=by
 unfold pt at h;simp only[Bool.and_eq_true,decide_eq_true_eq]at h;omega
theorem Good.fit{m:ai}(h:Good m):EG m:=by
 have:=h.c1;have:=h.c2;have:=h.c3;have:=h.c4;refine⟨by omega,by omega,by omega,by omega,fun x hx=>?_,fun x hx=>?_,fun x hx=>?_⟩
 .have:=qN (x7 (h.g1 x hx)).1
  unfold Sm;omega
 .have:=qN (JM (h.s1 x hx)).1
  unfold Sm;omega
 .have:=qN (J6 (h.v1 x hx)).2
  unfold Sm;omega
def v6:ai:=⟨[],[],[],[]⟩
abbrev fe(l:List ab)(k:eA):=lk (fun x:ab=>x.a) l k
abbrev mE(l:List aa)(k:eA):=lk (fun x:aa=>x.e) l k
abbrev qr(l:List ah)(k:eA):=lk (fun x:ah=>x.j) l k
def j3(p:eA)(f:ab):Bool:=fq f.a p||fq p f.a
def fP(c:ae)(M:ai):Int×ai :=
 bif !decide (fD c=0)then(fD c,M)else
 bif decide (c.k=2)then(bif !(fe M.b c.g.a).isSome then(10,M)else(0,⟨M.m,gZ (·.a) c.g.a M.b,M.i,M.h⟩))else
 bif decide (c.k=4)then(bif !(mE M.i c.o.e).isSome then(10,M)else(0,⟨M.m,M.b,gZ (·.e) c.o.e M.i,M.h⟩))else
 bif decide (c.k=6)then(bif !(qr M.h c.f.j).isSome then(10,M)else(0,⟨M.m,M.b,M.i,gZ (·.j) c.f.j M.h⟩))else
 bif decide (c.k=1)then(bif M.b.any (j3 c.g.a)then(11,M)else bif !(fe M.b c.g.a).isSome&&decide (2000<=(M.b.length:Int))then(4,M)else(0,⟨M.m,gG (·.a) c.g M.b,M.i,M.h⟩))else
 bif decide (c.k=3)then(bif !(mE M.i c.o.e).isSome&&decide (2000<=(M.i.length:Int))then(4,M)else(0,⟨M.m,M.b,gG (·.e) c.o M.i,M.h⟩))else
 (bif !(qr M.h c.f.j).isSome&&decide (100<=(M.h.length:Int))then(4,M)else(0,⟨M.m,M.b,M.i,gG (·.j) c.f M.h⟩))
def fY:List ae->ai->ai×Int
 |[],M=>(M,0)
 |c::l,M=>bif !decide ((fP c M).1=0)then(v6,(fP c M).1)else fY l (fP c M).2
def Ch(M:ai)(l:List ae):ai×Int:=bif !decide (yv M=0)then(v6,yv M)else fY l M
theorem EO:(decide ((1:Int)=1)=true/\decide ((1:Int)=2)=false/\decide ((1:Int)=3)=false/\decide ((1:Int)=4)=false/\decide ((1:Int)=5)=false/\decide ((1:Int)=6)=false) /\
  (decide ((2:Int)=1)=false/\decide ((2:Int)=2)=true/\decide ((2:Int)=3)=false/\decide ((2:Int)=4)=false/\decide ((2:Int)=5)=false/\decide ((2:Int)=6)=false) /\
  (decide ((3:Int)=1)=false/\decide ((3:Int)=2)=false/\decide ((3:Int)=3)=true/\decide ((3:Int)=4)=false/\decide ((3:Int)=5)=false/\decide ((3:Int)=6)=false) /\
  (decide ((4:Int)=1)=false/\decide ((4:Int)=2)=false/\decide ((4:Int)=3)=false/\decide ((4:Int)=4)=true/\decide ((4:Int)=5)=false/\decide ((4:Int)=6)=false) /\
  (decide ((5:Int)=1)=false/\decide ((5:Int)=2)=false/\decide ((5:Int)=3)=false/\decide ((5:Int)=4)=false/\decide ((5:Int)=5)=true/\decide ((5:Int)=6)=false) /\
  (decide ((6:Int)=1)=false/\decide ((6:Int)=2)=false/\decide ((6:Int)=3)=false/\decide ((6:Int)=4)=false/\decide ((6:Int)=5)=false/\decide ((6:Int)=6)=true):=by decide
theorem L1{c:ae}(h:fD c=0):c.k=1∨c.k=2∨c.k=3∨c.k=4∨c.k=5∨c.k=6:=qt (CA h).1
theorem md{c:ae}(h:fD c=0)(hk:c.k=1):iv c.g=0:=by
 have:=(CA h).2.1;unfold mB at this;rw[hk]at this;exact this
theorem AG{c:ae}(h:fD c=0)(hk:c.k=3):jJ c.o=0:=by
 have:=(CA h).2.1;unfold mB at this;rw[hk]at this;exact this
theorem AF{c:ae}(h:fD c=0)(hk:c.k=5):jZ c.f=0:=by
 have:=(CA h).2.1;unfold mB at this;rw[hk]at this;exact this
theorem tJ(p:eA):fq p p=false:=by
 cases hu:fq p p with
 |false=>rfl
 |true=>exact absurd (lA hu) (EQ _)
theorem GZ{M:ai}(h:Good M)(c:ae):Good (fP c M).2:=by
 unfold fP
 by_cases he:fD c=0
 .rw[decide_eq_true he,Bool.not_true,cond_false]
  have hc1:=h.c1;have hc2:=h.c2;have hc3:=h.c3;have hc4:=h.c4
  rcases L1 he with e|e|e|e|e|e
  all_goals simp only[e,EO,decide_true,cond_true,cond_false]
  .cases ha:M.b.any (j3 c.g.a)
   .simp only[cond_false]
    cases hb:!(fe M.b c.g.a).isSome&&decide (2000<=(M.b.length:Int))
    .simp only[cond_false]
     have hcl:∀x∈M.b,fq x.a c.g.a=false/\fq c.g.a x.a=false:=fun x hx=>by
      have:=any_eq_false.1 ha x hx
      simpa [j3]using this
     refine { h with c2:=?_,g1:=?_,g2:=yC h.g2 _,g3:=?_ }
     .show(gG (fun x:ab=>x.a) c.g M.b).length<=2000
      rw[EP h.g2];simp only[Bool.and_eq_false_iff,Bool.not_eq_false',decide_eq_false_iff_not]at hb
      rcases hb with hb|hb
      .rw[if_pos hb];omega
      .split <;> omega
     .intro x hx
      rcases mem_ins.1 hx with rfl|⟨hx,_⟩
      .exact md he e
      .exact h.g1 x hx
     .intro x hx y hy
      rcases mem_ins.1 hx with rfl|⟨hx,_⟩ <;> rcases mem_ins.1 hy with rfl|⟨hy,_⟩
      .exact tJ _
      .exact(hcl y hy).2
      .exact(hcl x hx).1
      .exact h.g3 x hx y hy
    .exact h
   .exact h
  .cases hb:!(fe M.b c.g.a).isSome
   .simp only[cond_false]
    refine { h with c2:=?_,g1:=?_,g2:=yB h.g2 _,g3:=?_ }
    .have:=Gb h.g2 c.g.a
     show(gZ (fun x:ab=>x.a) c.g.a M.b).length<=2000
     omega
    .intro x hx;exact h.g1 x (mem_del.1 hx).1
    .intro x hx y hy;exact h.g3 x (mem_del.1 hx).1 y (mem_del.1 hy).1
   .exact h
  .cases hb:!(mE M.i c.o.e).isSome&&decide (2000<=(M.i.length:Int))
   .simp only[cond_false]
    refine { h with c3:=?_,s1:=?_,s2:=yC h.s2 _ }
    .show(gG (fun x:aa=>x.e) c.o M.i).length<=2000
     rw[EP h.s2];simp only[Bool.and_eq_false_iff,Bool.not_eq_false',decide_eq_false_iff_not]at hb
     rcases hb with hb|hb
     .rw[if_pos hb];omega
     .split <;> omega
    .intro x hx
     rcases mem_ins.1 hx with rfl|⟨hx,_⟩
     .exact AG he e
     .exact h.s1 x hx
   .exact h
  .cases hb:!(mE M.i c.o.e).isSome
   .simp only[cond_false]
    refine { h with c3:=?_,s1:=?_,s2:=yB h.s2 _ }
    .have:=Gb h.s2 c.o.e
     show(gZ (fun x:aa=>x.e) c.o.e M.i).length<=2000
     omega
    .intro x hx;exact h.s1 x (mem_del.1 hx).1
   .exact h
  .cases hb:!(qr M.h c.f.j).isSome&&decide (100<=(M.h.length:Int))
   .simp only[cond_false]
    refine { h with c4:=?_,v1:=?_,v2:=yC h.v2 _ }
    .show(gG (fun x:ah=>x.j) c.f M.h).length<=100
     rw[EP h.v2];simp only[Bool.and_eq_false_iff,Bool.not_eq_false',decide_eq_false_iff_not]at hb
     rcases hb with hb|hb
     .rw[if_pos hb];omega
     .split <;> omega
    .intro x hx
     rcases mem_ins.1 hx with rfl|⟨hx,_⟩
     .exact AF he e
     .exact h.v1 x hx
   .exact h
  .cases hb:!(qr M.h c.f.j).isSome
   .simp only[cond_false]
    refine { h with c4:=?_,v1:=?_,v2:=yB h.v2 _ }
    .have:=Gb h.v2 c.f.j
     show(gZ (fun x:ah=>x.j) c.f.j M.h).length<=100
     omega
    .intro x hx;exact h.v1 x (mem_del.1 hx).1
   .exact h
 .rw[decide_eq_false he];exact h
abbrev gF:eA->ab->ab:=fun _ v=>v
abbrev gV:eA->ah->ah:=fun _ v=>v
structure Wr(m1:List (eA×ab))(m2:List (eA×eA))(m3:List (eA×ah))(M:ai):Prop where
 n1:(m1.map (·.1)).Nodup
 n2:(m2.map (·.1)).Nodup
 n3:(m3.map (·.1)).Nodup
 k1:∀k v,zp m1 k=some v->v.a=k
 k3:∀k v,zp m3 k=some v->v.j=k
 e1:iy gF fw m1=M.b
 e2:iy aa.mk [] m2=M.i
 e3:iy gV fu m3=M.h
theorem Mc(l:List aa)(h:l.length<=274877906944):zC l=some l:=by
 unfold zC
 refine M2 ⟨false,fun h=>by cases h⟩ fun b hb=>?_
 cases b with
 |true=>rw[hb rfl];rfl
 |false=>rw[cond_false,zg (by simpa using h)];rfl
theorem CJ{M:ai}(h:Good M):∃m1 m2 m3,uR M=some (m1,m2,m3,M.m)/\Wr m1 m2 m3 M:=by
 have hc2:=h.c2;have hc3:=h.c3;have hc4:=h.c4;refine⟨kz (·.a) id M.b,kz (·.e) (·.Value) M.i,kz (·.j) id M.h,?_,?_⟩
 .unfold uR
  simp only[eH];refine(jb (key:=fun x:ab=>x.a) (w:=id) (fun _ _ _ _ _=>rfl) h.g2 (by omega)).trans ?_;refine(jb (key:=fun x:aa=>x.e) (w:=fun x=>x.Value) (fun _ _ _ _ _=>rfl) h.s2 (by omega)).trans ?_;exact jb (key:=fun x:ah=>x.j) (w:=id) (fun _ _ _ _ _=>rfl) h.v2 (by omega)
 .refine⟨Ff h.g2,Ff h.s2,Ff h.v2,fun k v hv=>?_,fun k v hv=>?_,Gq h.g2 fun _ _=>rfl,Gq h.s2 fun _ _=>rfl,Gq h.v2 fun _ _=>rfl⟩
  .rw[E5]at hv
   obtain⟨x,hx,rfl⟩:=Option.map_eq_some_iff.1 hv;exact(j6 hx).2
  .rw[E5]at hv
   obtain⟨x,hx,rfl⟩:=Option.map_eq_some_iff.1 hv;exact(j6 hx).2
section
variable {m1:List (eA×ab)} {m2:List (eA×eA)} {m3:List (eA×ah)} {M:ai}
theorem Wr.l1(h:Wr m1 m2 m3 M):m1.length=M.b.length:=by rw[<-h.e1,ES]
theorem Wr.l2(h:Wr m1 m2 m3 M):m2.length=M.i.length:=by rw[<-h.e2,ES]
theorem Wr.l3(h:Wr m1 m2 m3 M):m3.length=M.h.length:=by rw[<-h.e3,ES]
theorem Wr.look1(h:Wr m1 m2 m3 M)(k:eA):zp m1 k=fe M.b k:=by
 rw[<-h.e1];refine Eq.trans ?_ (uK (key:=fun x:ab=>x.a) (g:=gF) (d:=fw) h.k1 k).symm
 cases zp m1 k <;> rfl
theorem Wr.look2(h:Wr m1 m2 m3 M)(k:eA):(zp m2 k).map (aa.mk k)=mE M.i k:=by
 rw[<-h.e2];exact(uK (key:=fun x:aa=>x.e) (g:=aa.mk) (fun _ _ _=>rfl) k).symm
theorem Wr.look3(h:Wr m1 m2 m3 M)(k:eA):zp m3 k=qr M.h k:=by
 rw[<-h.e3];refine Eq.trans ?_ (uK (key:=fun x:ah=>x.j) (g:=gV) (d:=fu) h.k3 k).symm
 cases zp m3 k <;> rfl
theorem Wr.is2(h:Wr m1 m2 m3 M)(k:eA):(zp m2 k).isSome=(mE M.i k).isSome:=by
 rw[<-h.look2,Option.isSome_map]
theorem Wr.mem1(h:Wr m1 m2 m3 M){p:eA×ab}(hp:p∈m1):p.2∈M.b/\p.2.a=p.1:=by
 have:=kC h.n1 hp;exact⟨(j6 ((h.look1 _).symm.trans this)).1,h.k1 _ _ this⟩
theorem Wr.put1(h:Wr m1 m2 m3 M)(f:ab):Wr (eG m1 f.a f) m2 m3 ⟨M.m,gG (·.a) f M.b,M.i,M.h⟩ :=
 { h with
  n1:=yL h.n1 _ _
  k1:=fun k v hv=>by
   rw[ut]at hv;split at hv
   .rename_i e;cases hv;exact e
   .exact h.k1 _ _ hv
  e1:=by rw[<-h.e1];exact E0 (key:=fun x:ab=>x.a) (g:=gF) h.n1 h.k1 _ _ rfl }
theorem Wr.put2(h:Wr m1 m2 m3 M)(f:aa):Wr m1 (eG m2 f.e f.Value) m3 ⟨M.m,M.b,gG (·.e) f M.i,M.h⟩ :=
 { h with
  n2:=yL h.n2 _ _
  e2:=by rw[<-h.e2];exact E0 (key:=fun x:aa=>x.e) (g:=aa.mk) h.n2 (fun _ _ _=>rfl) _ _ rfl }
theorem Wr.put3(h:Wr m1 m2 m3 M)(f:ah):Wr m1 m2 (eG m3 f.j f) ⟨M.m,M.b,M.i,gG (·.j) f M.h⟩ :=
 { h with
  n3:=yL h.n3 _ _
  k3:=fun k v hv=>by
   rw[ut]at hv;split at hv
   .rename_i e;cases hv;exact e
   .exact h.k3 _ _ hv
  e3:=by rw[<-h.e3];exact E0 (key:=fun x:ah=>x.j) (g:=gV) h.n3 h.k3 _ _ rfl }
theorem Wr.del1(h:Wr m1 m2 m3 M)(k:eA):Wr (gg m1 k) m2 m3 ⟨M.m,gZ (·.a) k M.b,M.i,M.h⟩ :=
 { h with
  n1:=CM h.n1 _
  k1:=fun k v hv=>by
   rw[Bm h.n1]at hv;split at hv
   .cases hv
   .exact h.k1 _ _ hv
  e1:=by rw[<-h.e1];exact EZ (key:=fun x:ab=>x.a) (g:=gF) h.n1 h.k1 _ }
theorem Wr.del2(h:Wr m1 m2 m3 M)(k:eA):Wr m1 (gg m2 k) m3 ⟨M.m,M.b,gZ (·.e) k M.i,M.h⟩ :=
 { h with
  n2:=CM h.n2 _
  e2:=by rw[<-h.e2];exact EZ (key:=fun x:aa=>x.e) (g:=aa.mk) h.n2 (fun _ _ _=>rfl) _ }
theorem Wr.del3(h:Wr m1 m2 m3 M)(k:eA):Wr m1 m2 (gg m3 k) ⟨M.m,M.b,M.i,gZ (·.j) k M.h⟩ :=
 { h with
  n3:=CM h.n3 _
  k3:=fun k v hv=>by
   rw[Bm h.n3]at hv;split at hv
   .cases hv
   .exact h.k3 _ _ hv
  e3:=by rw[<-h.e3];exact EZ (key:=fun x:ah=>x.j) (g:=gV) h.n3 h.k3 _ }
theorem Oz(h:Wr m1 m2 m3 M)(hM:Good M):BQ M.m m1 m2 m3=some M:=by
 have h1:=h.l1;have h2:=h.l2;have h3:=h.l3;have hc1:=hM.c1;have hc2:=hM.c2;have hc3:=hM.c3;have hc4:=hM.c4;have e1:ya m1=some (jz m1):=xY m1 (by omega);have e2:BI m2=some (jz m2):=xY m2 (by omega);have e3:BO m3=some (jz m3):=xY m3 (by omega);unfold BQ;simp only[eH,Mc _ (show M.m.length<=274877906944 by omega),ze,e1,e2,e3];refine(Fs (g:=gF) (d:=fw) (m:=m1) (fun _ _ _ _ _=>rfl) (by omega)).trans ?_;refine(Fs (g:=aa.mk) (d:=[]) (m:=m2) (fun _ _ _ _ _=>rfl) (by omega)).trans ?_;refine(Fs (g:=gV) (d:=fu) (m:=m3) (fun _ _ _ _ _=>rfl) (by omega)).trans ?_;rw[h.e1,h.e2,h.e3]
theorem Jp(h:Wr m1 m2 m3 M)(hM:Good M)(c:ae)(hc:js c)(o:List aa) :
  ∃a b d,FH c o m1 m2 m3=some ((fP c M).1,a,b,d)/\Wr a b d (fP c M).2:=by
 have h1:=h.l1;have h2:=h.l2;have h3:=h.l3;have hc1:=hM.c1;have hc2:=hM.c2;have hc3:=hM.c3;have hc4:=hM.c4;unfold FH fP;rw[O2 c hc,ze]
 by_cases he:fD c=0
 .rw[decide_eq_true he,Bool.not_true,cond_false]
  simp only[eH,fc,h.look1,h.look3,h.is2,h1,h2,h3]
  rcases L1 he with e|e|e|e|e|e
  all_goals simp only[e,EO,decide_true,cond_true,cond_false]
  .have hp:=qN (x7 (md he e)).1
   have hfor:∀(X:Int×List (eA×ab)×List (eA×eA)×List (eA×ah)) (k:Unit->Option (Int×List (eA×ab)×List (eA×eA)×List (eA×ah))) (Y:Int×List (eA×ab)×List (eA×eA)×List (eA×ah)),k ()=some Y ->
     forM (fun(e_260:eA×ab) (s:Unit) nx_254 k_253 =>
      call (yD e_260.1 c.g.a) fun r_262 =>
      callG (!r_262) (yD c.g.a e_260.1) false fun r_263 =>
      bif (r_262||r_263)then some X else nx_254 ()) M.b.length m1 () k=some (bif M.b.any (j3 c.g.a)then X else Y):=by
    intro X k Y hk
    have hany:M.b.any (j3 c.g.a)=m1.any fun p=>j3 c.g.a p.2:=by
     rw[Bool.eq_iff_iff];simp only[any_eq_true];constructor
     .rintro⟨x,hx,hx'⟩
      exact⟨(x.a,x),J4 ((h.look1 _).trans (sc hM.g2 hx)),hx'⟩
     .rintro⟨p,hp',hx'⟩
      exact⟨p.2,(h.mem1 hp').1,hx'⟩
    rw[hany];refine JO (fun r _=>(∀p∈r,p∈m1)/\(m1.any fun p=>j3 c.g.a p.2)=r.any fun p=>j3 c.g.a p.2) (fun s hs=>?_) (fun r s nx x j hr hx hnx=>?_) _ _ _ h1 ⟨fun _ h=>h,rfl⟩
    .rw[hs.2];exact hk
    .have hxm:=hr.1 x (mem_of_getElem? hx)
     obtain⟨q1,q2⟩:=h.mem1 hxm;have hl:=qN (x7 (hM.g1 _ q1)).1;rw[q2]at hl;rw[LN _ _ (by omega),LN _ _ (by omega),ze,ii]
     have hcl:j3 c.g.a x.2=(fq x.1 c.g.a||fq c.g.a x.1):=by unfold j3;rw[q2]
     have hp2:=KD hx
     have hany2:(r.any fun p=>j3 c.g.a p.2)=(j3 c.g.a x.2||(r.eraseIdx j).any fun p=>j3 c.g.a p.2):=by
      rw[Bool.eq_iff_iff];simp only[Bool.or_eq_true,any_eq_true];constructor
      .rintro⟨y,hy,hy'⟩
       rcases mem_cons.1 (hp2.mem_iff.1 hy)with rfl|hy
       .exact .inl hy'
       .exact .inr ⟨y,hy,hy'⟩
      .rintro(hy'|⟨y,hy,hy'⟩)
       .exact⟨x,hp2.mem_iff.2 (mem_cons_self ..),hy'⟩
       .exact⟨y,hp2.mem_iff.2 (mem_cons_of_mem _ hy),hy'⟩
     cases hu:fq x.1 c.g.a with
     |true =>
      rw[hu,Bool.true_or]at hcl;rw[Bool.true_or,cond_true,hr.2,hany2,hcl,Bool.true_or,cond_true]
     |false =>
      rw[hu,Bool.false_or]at hcl;rw[Bool.false_or,Bool.not_false,cond_true]
      cases hv:fq c.g.a x.1 with
      |true =>
       rw[hv]at hcl;rw[cond_true,hr.2,hany2,hcl,Bool.true_or,cond_true]
      |false =>
       rw[hv]at hcl;rw[hcl,Bool.false_or]at hany2;rw[cond_false];exact hnx () ⟨fun p hp=>hr.1 p (hp2.mem_iff.2 (mem_cons_of_mem _ hp)),hr.2.trans hany2⟩
   have ha:=yF m1 c.g.a c.g
   have ha':(eG m1 c.g.a c.g).length<=274877906944:=by split at ha <;> omega
   rw[zg ha'];rw[hfor _ _ (bif !(fe M.b c.g.a).isSome&&decide (2000<=(M.b.length:Int))then(4,m1,m2,m3)else(0,eG m1 c.g.a c.g,m2,m3)) (g6 _ _ _)];cases M.b.any (j3 c.g.a)
   .simp only[cond_false]
    cases !(fe M.b c.g.a).isSome&&decide (2000<=(M.b.length:Int))
    .exact⟨_,_,_,rfl,h.put1 _⟩
    .exact⟨_,_,_,rfl,h⟩
   .exact⟨_,_,_,rfl,h⟩
  .cases (fe M.b c.g.a).isSome
   .exact⟨_,_,_,rfl,h⟩
   .exact⟨_,_,_,rfl,h.del1 _⟩
  .have ha:=yF m2 c.o.e c.o.Value
   have ha':(eG m2 c.o.e c.o.Value).length<=274877906944:=by split at ha <;> omega
   rw[zg ha'];cases !(mE M.i c.o.e).isSome&&decide (2000<=(M.i.length:Int))
   .exact⟨_,_,_,rfl,h.put2 _⟩
   .exact⟨_,_,_,rfl,h⟩
  .cases (mE M.i c.o.e).isSome
   .exact⟨_,_,_,rfl,h⟩
   .exact⟨_,_,_,rfl,h.del2 _⟩
  .have ha:=yF m3 c.f.j c.f
   have ha':(eG m3 c.f.j c.f).length<=274877906944:=by split at ha <;> omega
   rw[zg ha'];cases !(qr M.h c.f.j).isSome&&decide (100<=(M.h.length:Int))
   .exact⟨_,_,_,rfl,h.put3 _⟩
   .exact⟨_,_,_,rfl,h⟩
  .cases (qr M.h c.f.j).isSome
   .exact⟨_,_,_,rfl,h⟩
   .exact⟨_,_,_,rfl,h.del3 _⟩
 .rw[decide_eq_false he]
  exact⟨_,_,_,rfl,h⟩
end
theorem Ke(c:ae)(M:ai):(fP c M).2.m=M.m:=by
 unfold fP;generalize hg1:(!decide (fD c=0))=b1;generalize decide (c.k=2)=b2;generalize decide (c.k=4)=b3;generalize decide (c.k=6)=b4;generalize decide (c.k=1)=b5;generalize decide (c.k=3)=b6
 cases b1 <;> cases b2 <;> cases b3 <;> cases b4 <;> cases b5 <;> cases b6 <;> simp only[cond_true,cond_false] <;> (first|rfl|(split <;> rfl)|skip)
 all_goals repeat' (first|rfl|(rw[Bool.cond_eq_ite];split))
theorem J9(M:ai)(hf:EG M)(l:List ae)(hl:∀c∈l,js c):xQ M l=some (Ch M l):=by
 unfold xQ Ch;rw[Od M hf,ze]
 by_cases h0:yv M=0
 .rw[decide_eq_true h0,Bool.not_true,cond_false,cond_false]
  have hM:=(xX M).1 h0;obtain⟨m1,m2,m3,e,hw⟩:=CJ hM;rw[e,ze];simp only[eH]
  have:∀(l:List ae) (i:Nat) (m1:List (eA×ab)) (m2:List (eA×eA)) (m3:List (eA×ah)) (N:ai),(∀c∈l,js c)->Good N->N.m=M.m->Wr m1 m2 m3 N ->
    forL l i (fun i_36 c_38 s nx_35 k_34 =>
     match s with
     |(m3_29,m4_30,m5_31) =>
      call (FH c_38 M.m m3_29 m4_30 m5_31) fun r_39 =>
      bif !decide (r_39.1=0)then
       some ((ai.mk [] [] [] []),r_39.1)
      else
      nx_35 (r_39.2.1,r_39.2.2.1,r_39.2.2.2)) (m1,m2,m3) (fun s=>match s with
     |(m3_29,m4_30,m5_31) =>
      call (BQ M.m m3_29 m4_30 m5_31) fun r_24 =>
       some (r_24,(0:Int)))=some (fY l N):=by
   intro l
   induction l with
   |nil =>
    intro i m1 m2 m3 N _ hN hF hw;unfold forL;simp only
    rw[<-hF,Oz hw hN,ze];rfl
   |cons c l ih =>
    intro i m1 m2 m3 N hc hN hF hw;unfold forL;simp only;obtain⟨a,b,d,e,hw'⟩:=Jp hw hN c (hc c (mem_cons_self ..)) M.m;rw[e,ze];simp only[fY];rw[ih _ _ _ _ _ (fun x hx=>hc x (mem_cons_of_mem _ hx)) (GZ hN c) ((Ke c N).trans hF) hw'];exact g6 _ _ _
  exact this l 0 m1 m2 m3 M hl hM rfl hw
 .rw[decide_eq_false h0];rfl
def Ends{Z:Type}(m:Option Z)(P:Z->Prop):Prop:=∃z,m=some z/\P z
section
variable {Z A S α:Type} {P:Z->Prop}
theorem Ends.call{a:Option A}{k:A->Option Z}{Q:A->Prop}(h:Ends a Q)(hk:∀x,Q x->Ends (k x) P):Ends (Vc.call a k) P:=by
 obtain⟨x,rfl,hx⟩:=h;exact hk x hx
theorem Gk{f:Nat->α->S->(S->Option Z)->(S->Option Z)->Option Z}{k:S->Option Z}(inv:Nat->List α->S->Prop)
  (h0:∀i s,inv i [] s->Ends (k s) P) (h1:∀i x l s nx,inv i (x::l) s->(∀s',inv (i+1) l s'->Ends (nx s') P)->Ends (f i x s nx k) P) :
  ∀(l:List α) (i:Nat) (s:S),inv i l s->Ends (forL l i f s k) P
 |[],i,s,h=>h0 i s h
 |x::l,i,s,h=>h1 i x l s _ h fun s' hs=>Gk inv h0 h1 l (i+1) s' hs
theorem nM{f:S->(S->Option Z)->(S->Option Z)->Option Z}{k:S->Option Z}(inv:S->Prop)(mu:S->Nat)
  (h:∀s nx,inv s->(∀s',inv s'->mu s'<mu s->Ends (nx s') P)->Ends (f s nx k) P):∀(N:Nat) (s:S),inv s->mu s<N->Ends (loopN N f s k) P
 |0,s,_,hm=>by omega
 |N+1,s,hi,hm=>by
  unfold loopN
  exact h s _ hi fun s' hs' hlt=>nM inv mu h N s' hs' (by omega)
theorem Fb{f:S->(S->Option Z)->(S->Option Z)->Option Z}{k:S->Option Z}(inv:S->Prop)(mu:S->Nat)
  (h:∀s nx,inv s->(∀s',inv s'->mu s'<mu s->Ends (nx s') P)->Ends (f s nx k) P) (s:S) (hi:inv s) (hm:mu s<1099511627776):Ends (loopN fJ f s k) P:=by
 obtain⟨N,hN⟩:∃N,fJ=N:=⟨_,rfl⟩;have hN2:1099511627776<=N:=hN ▸ un;rw[hN];exact nM inv mu h N s hi (by omega)
end
abbrev eZ(o:List aa)(p:Nat):eA:=(o.getD p (aa.mk [] [])).e
theorem Av(a b:aa):J8 a b=some (iQ a.e b.e):=rfl
theorem LP{α:Type}(o:List α)(i p:Nat)(x d:α)(h:i<o.length):(o.set i x).getD p d=if i=p then x else o.getD p d:=by
 simp only[getD_eq_getElem?_getD,getElem?_set]
 by_cases e:i=p
 .subst e;simp[h]
 .simp[e]
theorem L5{α:Type}(o:List α)(i:Nat)(d:α)(h:i<o.length):o.getD i d∈o:=by
 simp only[getD_eq_getElem?_getD,getElem?_eq_getElem h,Option.getD_some];exact getElem_mem h
structure mv(o0 o:List aa):Prop where
 len:o.length=o0.length
 sub:∀x∈o,x∈o0
 ord:∀p q,p<q->q<o.length->¬ eZ o q<eZ o p
theorem ru(o0:List aa)(hn:o0.length<=1073741824):Ends (zn 0 (o0.length:Int) o0) (mv o0):=by
 unfold zn;rw[show IntKind.i64.wrap ((0:Int)+1)=((1:Nat):Int)from rfl];refine Fb (fun st:Int×List aa=>∃i:Nat,st.1=i/\1<=i/\(i<=o0.length∨i=1)/\st.2.length=o0.length/\(∀x∈st.2,x∈o0)/\∀p q,p<q->q<i->q<o0.length->¬ eZ st.2 q<eZ st.2 p) (fun st=>o0.length-st.1.toNat) ?_ _ ⟨1,rfl,by omega,by omega,rfl,fun _ h=>h,fun p q h1 h2=>by omega⟩ (by simp only;omega);rintro⟨i',o⟩ nx ⟨i,rfl,hi1,hi,hl,hs,ho⟩ hnx;simp only at hl hs ho hnx|-
 by_cases hlt:i<o0.length
 .rw[decide_eq_true (by omega),cond_true,eH]
  refine Fb (fun st:Int×List aa=>∃j:Nat,st.1=j/\j<=i/\st.2.length=o0.length/\(∀x∈st.2,x∈o0)/\∀p q,p<q->q<=i->q≠j->¬ eZ st.2 q<eZ st.2 p) (fun st=>st.1.toNat) ?_ _ ⟨i,rfl,Nat.le_refl _,hl,hs,fun p q h1 h2 h3=>ho p q h1 (by omega) (by omega)⟩ (by simp only;omega);rintro⟨j',o1⟩ nx1 ⟨j,rfl,hj,hl1,hs1,ho1⟩ hnx1;simp only at hl1 hs1 ho1 hnx1|-
  have hend:(j=0∨¬ eZ o1 j<eZ o1 (j-1))->Ends (nx (IntKind.i64.wrap ((i:Int)+1),o1)) (mv o0):=by
   intro hj0;rw[gH i (by omega)];refine hnx _ ⟨i+1,rfl,by omega,by omega,hl1,hs1,fun p q h1 h2 h3=>?_⟩ (by simp only;omega)
   by_cases hq:q=j
   .subst hq
    rcases hj0 with hj0|hj0
    .omega
    .by_cases hp:p=q-1
     .rw[hp];exact hj0
     .have h4:=ho1 p (q-1) (by omega) (by omega) (by omega)
      intro h5
      rcases A9 (eZ o1 q) (eZ o1 (q-1))with h6|h6|h6
      .exact hj0 h6
      .exact h4 (h6 ▸ h5)
      .exact h4 (Bk h6 h5)
   .exact ho1 p q h1 (by omega) hq
  by_cases hj0:0<j
  .have hw:IntKind.i64.wrap ((j:Int)-1)=((j-1:Nat):Int):=iV _ hj0 (by omega)
   simp only[hw];rw[decide_eq_true (by omega),zg (by intro _;omega),zg (by intro _;omega),G8,Av,ze,Bool.true_and,Ct];simp only[Int.toNat_natCast]
   by_cases hc:eZ o1 j<eZ o1 (j-1)
   .rw[decide_eq_true hc,cond_true,zg (by omega),zg (by omega),zg (by omega),zg (by simp only[length_set];omega)]
    refine hnx1 _ ⟨j-1,rfl,by omega,by simpa using hl1,fun x hx=>?_,fun p q h1 h2 h3=>?_⟩ (by simp only;omega)
    .rcases mem_or_eq_of_mem_set hx with hx|rfl
     .rcases mem_or_eq_of_mem_set hx with hx|rfl
      .exact hs1 x hx
      .exact hs1 _ (L5 _ _ _ (by omega))
     .exact hs1 _ (L5 _ _ _ (by omega))
    .have hset:∀p,eZ ((o1.set j (o1.getD (j-1) (aa.mk [] []))).set (j-1) (o1.getD j (aa.mk [] []))) p=if p=j-1 then eZ o1 j else if p=j then eZ o1 (j-1)else eZ o1 p:=by
      intro p;unfold eZ;rw[LP _ _ _ _ _ (by simp only[length_set];omega),LP _ _ _ _ _ (by omega)]
      by_cases e1:j-1=p
      .rw[if_pos e1,if_pos e1.symm]
      .have e1':¬ p=j-1:=fun e=>e1 e.symm
       rw[if_neg e1,if_neg e1']
       by_cases e2:j=p
       .rw[if_pos e2,if_pos e2.symm]
       .have e2':¬ p=j:=fun e=>e2 e.symm
        rw[if_neg e2,if_neg e2']
     show ¬ eZ ((o1.set j (o1.getD (j-1) (aa.mk [] []))).set (j-1) (o1.getD j (aa.mk [] []))) q<eZ ((o1.set j (o1.getD (j-1) (aa.mk [] []))).set (j-1) (o1.getD j (aa.mk [] []))) p
     rw[hset,hset,if_neg h3]
     by_cases hq:q=j
     .subst hq
      rw[if_pos rfl]
      by_cases hp:p=q-1
      .rw[if_pos hp];exact xZ hc
      .rw[if_neg hp,if_neg (by omega)]
       exact ho1 p (q-1) (by omega) (by omega) (by omega)
     .rw[if_neg hq]
      by_cases hp:p=j-1
      .rw[if_pos hp]
       exact ho1 j q (by omega) h2 hq
      .rw[if_neg hp]
       by_cases hp2:p=j
       .rw[if_pos hp2]
        exact ho1 (j-1) q (by omega) h2 hq
       .rw[if_neg hp2]
        exact ho1 p q h1 h2 hq
   .rw[decide_eq_false hc,cond_false]
    exact hend (.inr hc)
  .rw[decide_eq_false (by omega),zg (by intro h;cases h),zg (by intro h;cases h),MM,Bool.false_and,cond_false]
   exact hend (.inl (by omega))
 .rw[decide_eq_false (by omega),cond_false]
  exact⟨_,rfl,hl,hs,fun p q h1 h2=>ho p q h1 (by omega) (by omega)⟩
theorem tm(o:List aa):zn 20 20 o=some o:=by
 unfold zn;obtain⟨N,hN⟩:∃N,fJ=N+1:=⟨1099511627775,rfl⟩;rw[hN];unfold loopN;rfl
theorem nL{Z S:Type}{f:S->(S->Option Z)->(S->Option Z)->Option Z}{k:S->Option Z}{s:S}(h:∀nx,f s nx k=k s):loopN fJ f s k=k s:=by
 obtain⟨N,hN⟩:∃N,fJ=N+1:=⟨1099511627775,rfl⟩;rw[hN];unfold loopN;exact h _
theorem p8(o0:List aa)(hn:o0.length<=20):Ends (zz o0) (mv o0):=by
 unfold zz Le
 refine Ends.call (Q:=mv o0) ?_ fun x hx=>⟨x,rfl,hx⟩
 rw[eH]
 by_cases h20:o0.length=20
 .obtain⟨o,e,ho⟩:=ru o0 (by omega)
  rw[h20]at e|-;have e':zn 0 20 o0=some o:=e;refine Fb (fun st:Int×Int×List aa=>(st=(0,20,o0))∨st=(20,40,o)) (fun st=>40-st.2.1.toNat) ?_ _ (.inl rfl) (by simp only;omega);rintro st nx (rfl|rfl) hnx
  .simp only
   rw[decide_eq_true (by omega),cond_true,e',ze];exact hnx _ (.inr rfl) (show 40-(IntKind.i64.wrap (20+20)).toNat<40-(20:Int).toNat by decide)
  .simp only
   rw[decide_eq_false (by omega),cond_false];refine Ends.call (Q:=fun x=>x=o) ⟨o,tm o,rfl⟩ ?_;rintro x rfl;rw[nL (fun nx=>by simp only;rw[decide_eq_false (by omega),cond_false])];exact⟨_,rfl,ho⟩
 .refine Fb (fun st:Int×Int×List aa=>st=(0,20,o0)) (fun st=>0) ?_ _ rfl (by omega)
  rintro st nx rfl hnx;simp only;rw[decide_eq_false (by omega),cond_false]
  refine Ends.call (ru o0 (by omega)) fun o ho=>?_
  rw[nL (fun nx=>by simp only;rw[decide_eq_false (by omega),cond_false])];exact⟨_,rfl,ho⟩
def gl(z:Nat×Nat×List aa):List aa:=List.take z.2.1 (List.drop z.1 z.2.2)
structure uf(o:List aa)(z:Nat×Nat×List aa):Prop where
 len:(gl z).length<=o.length
 sub:∀x∈gl z,x∈o
 srt:eW (·.e) (gl z)
theorem rB(a b:aa):GS a b=some (decide (a.e=b.e)):=rfl
theorem Mr{l:List aa}(h:∀p q,p<q->q<l.length->eZ l p<eZ l q):eW (·.e) l:=by
 unfold eW;rw[pairwise_iff_getElem];intro i j hi hj hij;have:=h i j hij hj
 simpa [eZ,getD_eq_getElem?_getD,hi,hj]using this
theorem nW{o:List aa}{n p:Nat}(h:p<n):eZ (o.take n) p=eZ o p:=by
 simp[eZ,getD_eq_getElem?_getD,getElem?_take,h]
theorem AO(o:List aa)(hl:o.length<=1073741824)(ho:∀p q,p<q->q<o.length->¬ eZ o q<eZ o p) :
  Ends (zH o) (uf o):=by
 unfold zH
 have h0:List.take o.length o=o:=by simp
 rw[h0]
 by_cases h2:(o.length:Int)<2
 .rw[decide_eq_true h2,cond_true]
  refine⟨_,rfl,?_,?_,?_⟩
  .simp[gl]
  .intro x hx;simpa [gl]using hx
  .refine Mr fun p q hp hq=>?_
   simp[gl]at hq;omega
 .rw[decide_eq_false h2,cond_false,eH]
  refine Fb (fun k:Int=>∃i:Nat,k=i/\1<=i/\i<=o.length/\∀p q,p<q->q<i->eZ o p<eZ o q) (fun k=>o.length-k.toNat) ?_ _ ⟨1,rfl,Nat.le_refl _,by omega,fun p q h1 h2=>by omega⟩ (by omega);rintro k' nx ⟨K0,rfl,hK1,hK2,hK⟩ hnx
  by_cases hlt:K0<o.length
  .have hw:IntKind.i64.wrap ((K0:Int)-1)=((K0-1:Nat):Int):=iV _ hK1 (by omega)
   simp only[hw,Int.toNat_natCast,Nat.zero_add];rw[decide_eq_true (by omega),cond_true,eH,zg (by omega),zg (by omega),rB,ze]
   by_cases he:eZ o K0=eZ o (K0-1)
   .rw[decide_eq_true he,cond_true,zg (by omega),eH]
    refine Fb (fun st:Int×Int×List aa=>∃k k2:Nat,st.1=k/\st.2.1=k2/\K0<=k/\1<=k2/\k+1<=K0+k2/\K0+k2<=o.length/\st.2.2.length=o.length/\(∀x∈st.2.2,x∈o) /\
      (∀p,K0+k2<=p+1->eZ st.2.2 p=eZ o p/\st.2.2.getD p (aa.mk [] [])=o.getD p (aa.mk [] []))/\(∀p q,p<q->q<k->eZ st.2.2 p<eZ st.2.2 q)/\eZ st.2.2 (k-1)=eZ o (K0+k2-1)) (fun st=>o.length-st.2.1.toNat) ?_ _
     ⟨K0,1,rfl,rfl,Nat.le_refl _,Nat.le_refl _,Nat.le_refl _,by omega,rfl,fun _ h=>h,fun _ _=>⟨rfl,rfl⟩,hK,by simpa using he.symm⟩ (by simp only;omega)
    rintro⟨ki,k2i,o1⟩ nx1 ⟨k,k2,rfl,rfl,q1,q2,q3,q4,q5,q6,q7,q8,q9⟩ hnx1;simp only at q5 q6 q7 q8 q9 hnx1|-
    have hlen:(List.take (o.length-K0) (List.drop K0 o1)).length=o.length-K0:=by simp[q5]
    by_cases hk2:K0+k2<o.length
    .have hw2:IntKind.i64.wrap ((k2:Int)-1)=((k2-1:Nat):Int):=iV _ q2 (by omega)
     simp only[hw2,Int.toNat_natCast];rw[decide_eq_true (by omega),cond_true,zg (by omega),zg (by omega),zg (by omega),zg (by omega),rB,ze]
     have e1:K0+(k2-1)=K0+k2-1:=by omega
     have r1:=(q7 (K0+k2) (by omega)).1;have r2:=(q7 (K0+k2-1) (by omega)).1
     have hdec:decide ((aa.mk ((o1.getD (K0+k2) (aa.mk [] [])).e) ((o1.getD (K0+k2) (aa.mk [] [])).Value)).e=(aa.mk ((o1.getD (K0+(k2-1)) (aa.mk [] [])).e) ((o1.getD (K0+(k2-1)) (aa.mk [] [])).Value)).e)=decide (eZ o (K0+k2)=eZ o (K0+k2-1)):=by
      simp only[e1]
      show decide (eZ o1 (K0+k2)=eZ o1 (K0+k2-1))=_
      rw[r1,r2]
     rw[hdec]
     by_cases heq:eZ o (K0+k2)=eZ o (K0+k2-1)
     .rw[decide_eq_true heq,Bool.not_true,cond_false,gH k2 (by omega)]
      refine hnx1 _ ⟨k,k2+1,rfl,rfl,q1,by omega,by omega,by omega,q5,q6,fun p hp=>q7 p (by omega),q8,?_⟩ (by simp only;omega);simp only;rw[q9,show K0+(k2+1)-1=K0+k2 by omega,heq]
     .rw[decide_eq_false heq,Bool.not_false,cond_true,zg (by omega),zg (by omega),zg (by omega),zg (by omega),gH k2 (by omega),gH k (by omega)]
      have hgt:eZ o (K0+k2-1)<eZ o (K0+k2):=by
       rcases A9 (eZ o (K0+k2-1)) (eZ o (K0+k2))with h|h|h
       .exact h
       .exact absurd h.symm heq
       .exact absurd h (ho _ _ (by omega) (by omega))
      have hset:∀p,(o1.set k (aa.mk ((o1.getD (K0+k2) (aa.mk [] [])).e) ((o1.getD (K0+k2) (aa.mk [] [])).Value))).getD p (aa.mk [] [])=if k=p then o1.getD (K0+k2) (aa.mk [] [])else o1.getD p (aa.mk [] []):=by
       intro p;rw[LP _ _ _ _ _ (by omega)]
      refine hnx1 _ ⟨k+1,k2+1,rfl,rfl,by omega,by omega,by omega,by omega,by simpa using q5,fun x hx=>?_,fun p hp=>?_,fun p q hp hq=>?_,?_⟩ (by simp only;omega)
      .rcases mem_or_eq_of_mem_set hx with hx|rfl
       .exact q6 x hx
       .exact q6 _ (L5 _ _ _ (by omega))
      .simp only[eZ,hset]
       rw[if_neg (by omega)];exact q7 p (by omega)
      .simp only[eZ,hset]
       rw[if_neg (by omega)]
       by_cases hqk:q=k
       .subst hqk
        rw[if_pos rfl]
        show eZ o1 p<eZ o1 (K0+k2)
        rw[r1]
        by_cases hpk:p=q-1
        .subst hpk;rw[q9];exact hgt
        .have:=q8 p (q-1) (by omega) (by omega)
         rw[q9]at this;exact Bk this hgt
       .rw[if_neg (fun e=>hqk e.symm)]
        exact q8 p q hp (by omega)
      .simp only[eZ,hset]
       rw[if_pos (by omega)]
       show eZ o1 (K0+k2)=eZ o (K0+(k2+1)-1)
       rw[r1];rfl
    .rw[decide_eq_false (by omega),cond_false,zg (by omega),zg (by omega)]
     have hcut:gl (0,k,List.take k o1++List.replicate (o.length-k) (aa.mk [] [])++List.drop (k+(o.length-k)) o1)=o1.take k:=by
      unfold gl;simp only[drop_zero,append_assoc];rw[take_append_of_le_length (by simp only[length_take];omega),take_take,Nat.min_self]
     refine⟨_,rfl,?_,?_,?_⟩
     .show(gl (0,k,_)).length<=_
      rw[Int.toNat_natCast,hcut,length_take];omega
     .show ∀x∈gl (0,k,_),_
      rw[Int.toNat_natCast,hcut]
      exact fun x hx=>q6 x (mem_of_mem_take hx)
     .show eW _ (gl (0,k,_))
      rw[Int.toNat_natCast,hcut]
      refine Mr fun p q hp hq=>?_
      rw[length_take]at hq;rw[nW (by omega),nW (by omega)];exact q8 p q hp (by omega)
   .rw[decide_eq_false he,cond_false,gH K0 (by omega)]
    refine hnx _ ⟨K0+1,rfl,by omega,by omega,fun p q h1 h2=>?_⟩ (by omega)
    have hgt:eZ o (K0-1)<eZ o K0:=by
     rcases A9 (eZ o (K0-1)) (eZ o K0)with h|h|h
     .exact h
     .exact absurd h.symm he
     .exact absurd h (ho _ _ (by omega) (by omega))
    by_cases hq:q=K0
    .subst hq
     by_cases hp:p=q-1
     .subst hp;exact hgt
     .exact Bk (hK p (q-1) (by omega) (by omega)) hgt
    .exact hK p q h1 (by omega)
  .rw[decide_eq_false (by omega),cond_false]
   refine⟨_,rfl,?_,?_,?_⟩
   .simp[gl]
   .intro x hx;simpa [gl]using hx
   .have e0:gl (0,o.length,o)=o:=by simp[gl]
    show eW _ (gl (0,o.length,o))
    rw[e0]
    exact Mr fun p q hp hq=>hK p q hp (by omega)
structure Fw(a b d:Nat)(M:ai):Prop where
 good:Good M
 facts:M.m.length<=20
 files:M.b.length<=a
 data:∀f∈M.b,f.q.length<=3000
 sets:M.i.length<=b
 svcs:M.h.length<=d
def gh(f:ab):ae:=⟨1,f,⟨[],[]⟩,⟨[],[],false,false⟩⟩
def iR(s:aa):ae:=⟨3,⟨[],[],false⟩,s,⟨[],[],false,false⟩⟩
def iS(s:ah):ae:=⟨5,⟨[],[],false⟩,⟨[],[]⟩,s⟩
theorem Au(c:ae)(hc:js c)(M:ai)(h:Good M):BD c M.m M.b M.i M.h=some (bif decide ((fP c M).1=0)then((fP c M).2.m,(fP c M).2.b,(fP c M).2.i,(fP c M).2.h)else(M.m,M.b,M.i,M.h)):=by
 unfold BD;rw[J9 _ h.fit [c] (fun x hx=>by rcases mem_cons.1 hx with rfl|hx;exact hc;cases hx),ze];unfold Ch;rw[decide_eq_true ((xX M).2 h),Bool.not_true,cond_false];unfold fY fY
 by_cases h0:(fP c M).1=0
 .rw[decide_eq_true h0];rfl
 .rw[decide_eq_false h0]
  simp only[Bool.not_false,cond_true]
  rw[decide_eq_false h0];rfl
section
variable {a b d:Nat} {M:ai}
theorem Fw.next(h:Fw a b d M)(c:ae):Good (fP c M).2/\(fP c M).2.m.length<=20:=⟨GZ h.good c,by rw[Ke];exact h.facts⟩
theorem vx(f:ab)(M:ai):(fP (gh f) M).2=M∨(fP (gh f) M).2=⟨M.m,gG (·.a) f M.b,M.i,M.h⟩:=by
 unfold fP;have hk:(gh f).k=1:=rfl;rw[hk];simp only[EO,decide_true,cond_true,cond_false];cases !decide (fD (gh f)=0)
 .cases M.b.any (j3 (gh f).g.a)
  .cases !(fe M.b (gh f).g.a).isSome&&decide (2000<=(M.b.length:Int))
   .exact .inr rfl
   .exact .inl rfl
  .exact .inl rfl
 .exact .inl rfl
theorem vu(f:aa)(M:ai):(fP (iR f) M).2=M∨(fP (iR f) M).2=⟨M.m,M.b,gG (·.e) f M.i,M.h⟩:=by
 unfold fP;have hk:(iR f).k=3:=rfl;rw[hk];simp only[EO,decide_true,cond_true,cond_false];cases !decide (fD (iR f)=0)
 .cases !(mE M.i (iR f).o.e).isSome&&decide (2000<=(M.i.length:Int))
  .exact .inr rfl
  .exact .inl rfl
 .exact .inl rfl
theorem vt(f:ah)(M:ai):(fP (iS f) M).2=M∨(fP (iS f) M).2=⟨M.m,M.b,M.i,gG (·.j) f M.h⟩:=by
 unfold fP;have hk:(iS f).k=5:=rfl;rw[hk];simp only[EO,decide_true,cond_true,cond_false];cases !decide (fD (iS f)=0)
 .cases !(qr M.h (iS f).f.j).isSome&&decide (100<=(M.h.length:Int))
  .exact .inr rfl
  .exact .inl rfl
 .exact .inl rfl
theorem Fw.put(h:Fw a b d M)(f:ab)(hf:f.q.length<=3000):Fw (a+1) b d (fP (gh f) M).2:=by
 obtain⟨h1,h2⟩:=h.next (gh f)
 rcases vx f M with e|e <;> rw[e]at h1 h2|-
 .exact⟨h1,h2,by have:=h.files;omega,h.data,h.sets,h.svcs⟩
 .refine⟨h1,h2,?_,fun x hx=>?_,h.sets,h.svcs⟩
  .have:=h.files
   show(gG (fun x:ab=>x.a) f M.b).length<=_
   rw[EP h.good.g2]
   split <;> omega
  .rcases mem_ins.1 hx with rfl|⟨hx,_⟩
   .exact hf
   .exact h.data x hx
theorem Fw.set(h:Fw a b d M)(f:aa):Fw a (b+1) d (fP (iR f) M).2:=by
 obtain⟨h1,h2⟩:=h.next (iR f)
 rcases vu f M with e|e <;> rw[e]at h1 h2|-
 .exact⟨h1,h2,h.files,h.data,by have:=h.sets;omega,h.svcs⟩
 .refine⟨h1,h2,h.files,h.data,?_,h.svcs⟩
  have:=h.sets
  show(gG (fun x:aa=>x.e) f M.i).length<=_
  rw[EP h.good.s2]
  split <;> omega
theorem Fw.svc(h:Fw a b d M)(f:ah):Fw a b (d+1) (fP (iS f) M).2:=by
 obtain⟨h1,h2⟩:=h.next (iS f)
 rcases vt f M with e|e <;> rw[e]at h1 h2|-
 .exact⟨h1,h2,h.files,h.data,h.sets,by have:=h.svcs;omega⟩
 .refine⟨h1,h2,h.files,h.data,h.sets,?_⟩
  have:=h.svcs
  show(gG (fun x:ah=>x.j) f M.h).length<=_
  rw[EP h.good.v2]
  split <;> omega
end
abbrev M4:=List aa×List ab×List aa×List ah
def m4(M:ai):M4:=(M.m,M.b,M.i,M.h)
theorem L3{a b d:Nat}{M:ai}(h:Fw a b d M){c:ae}(hc:js c){a' b' d':Nat}(hn:Fw a' b' d' (fP c M).2)(ha:a<=a')(hb:b<=b')(hd:d<=d') :
  Ends (BD c M.m M.b M.i M.h) fun r=>∃N,r=m4 N/\Fw a' b' d' N:=by
 refine⟨_,Au c hc M h.good,?_⟩;cases decide ((fP c M).1=0)
 .exact⟨M,rfl,h.good,h.facts,Nat.le_trans h.files ha,h.data,Nat.le_trans h.sets hb,Nat.le_trans h.svcs hd⟩
 .exact⟨_,rfl,hn⟩
theorem lM{Z α:Type}{P:Z->Prop}{f:Nat->α->M4->(M4->Option Z)->(M4->Option Z)->Option Z}{k:M4->Option Z}(F:Nat->ai->Prop)(n0:Nat)(Q:α->Prop)
  (hk:∀n M,n<=n0->F n M->Ends (k (m4 M)) P) (hf:∀i x nx k n M,Q x->F n M->(∀N,F (n+1) N->Ends (nx (m4 N)) P)->Ends (f i x (m4 M) nx k) P) (l:List α) (hl:l.length<=n0) (hq:∀x∈l,Q x) {M:ai} (hM:F 0 M) :
  Ends (forL l 0 f (m4 M) k) P:=by
 refine Gk (fun i r st=>∃M,st=m4 M/\F i M/\(∀x∈r,Q x)/\i+r.length=l.length) (fun i s h=>?_) (fun i x r s nx h hnx=>?_) l 0 _ ⟨M,rfl,hM,hq,by omega⟩
 .obtain⟨M,rfl,h1,_,h2⟩:=h
  exact hk i M (by simp at h2;omega) h1
 .obtain⟨M,rfl,h1,h2,h3⟩:=h
  exact hf i x nx k i M (h2 x (mem_cons_self ..)) h1 fun N hN=>hnx _ ⟨N,rfl,hN,fun y hy=>h2 y (mem_cons_of_mem _ hy),by simp only[length_cons]at h3;omega⟩
theorem wz(m:ai)(hm:EG m):Ends (Gl m) (Fw 40 40 40):=by
 have hm1:=hm.facts;have hm2:=hm.files;have hm3:=hm.sets;have hm4:=hm.svcs;unfold Gl;rw[eH];refine Gk (fun i r o=>o.length<=20/\o.length<=i/\i+r.length=m.m.length/\∀x∈o,uh x=0) (fun i o h=>?_) (fun i x r o nx h hnx=>?_) m.m 0 [] ⟨by simp,by simp,by simp,by simp⟩
 .obtain⟨h1,_,_,h2⟩:=h
  refine Ends.call (p8 o h1) fun o1 hs=>?_
  refine Ends.call (AO o1 (by have:=hs.len;omega) hs.ord) fun z hz=>?_
  have hz1:=hz.len;have hz2:=hs.len
  have hF:Fw 0 0 0 ⟨gl z,[],[],[]⟩:=by
   refine⟨⟨by simp only;omega,by simp,by simp,by simp,fun x hx=>h2 x (hs.sub x (hz.sub x hx)),hz.srt,by simp,by simp[eW],by simp,by simp,by simp[eW],by simp,by simp[eW]⟩,by simp only;omega,by simp,by simp,by simp,by simp⟩
  rw[eH,zg (by omega)];refine lM (F:=fun n M=>Fw n 0 0 M) (n0:=40) (Q:=fun f:ab=>Sm f.a) (fun n M hn hM=>?_) (fun i f nx k n M hf hM hnx=>?_) _ (by simp only[length_take];omega) (fun x hx=>hm.fp x (mem_of_mem_take hx)) hF
  .have hM40:Fw 40 0 0 M:=⟨hM.good,hM.facts,Nat.le_trans hM.files hn,hM.data,hM.sets,hM.svcs⟩
   show Ends (jp _ _) _
   rw[eH,zg (by omega)];refine lM (F:=fun n M=>Fw 40 n 0 M) (n0:=40) (Q:=fun f:aa=>Sm f.e) (fun n M hn hM=>?_) (fun i f nx k n M hf hM hnx=>?_) _ (by simp only[length_take];omega) (fun x hx=>hm.sp x (mem_of_mem_take hx)) hM40
   .have hM40:Fw 40 40 0 M:=⟨hM.good,hM.facts,hM.files,hM.data,Nat.le_trans hM.sets hn,hM.svcs⟩
    show Ends (jp _ _) _
    rw[eH,zg (by omega)];refine lM (F:=fun n M=>Fw 40 40 n M) (n0:=40) (Q:=fun f:ah=>Sm f.a) (fun n M hn hM=>?_) (fun i f nx k n M hf hM hnx=>?_) _ (by simp only[length_take];omega) (fun x hx=>hm.vp x (mem_of_mem_take hx)) hM40
    .exact⟨_,rfl,hM.good,hM.facts,hM.files,hM.data,hM.sets,Nat.le_trans hM.svcs hn⟩
    .show Ends (call _ _) _
     refine Ends.call (L3 hM (c:=iS f) ⟨by simp[Sm,iS],by simp[Sm,iS],hf⟩ (hM.svc f) (Nat.le_refl _) (Nat.le_refl _) (Nat.le_succ _)) ?_;rintro r ⟨N,rfl,hN⟩;exact hnx N hN
   .show Ends (call _ _) _
    refine Ends.call (L3 hM (c:=iR f) ⟨by simp[Sm,iR],hf,by simp[Sm,iR]⟩ (hM.set f) (Nat.le_refl _) (Nat.le_succ _) (Nat.le_refl _)) ?_;rintro r ⟨N,rfl,hN⟩;exact hnx N hN
  .show Ends (eB _ _) _
   rw[zg (by omega)];have hN:Fw (n+1) 0 0 _:=hM.put ⟨f.a,List.take ((min (f.q.length:Int) 3000).toNat) f.q,f.r⟩ (by simp only[length_take];omega);refine Ends.call (L3 hM (c:=gh ⟨f.a,List.take ((min (f.q.length:Int) 3000).toNat) f.q,f.r⟩) ⟨hf,by simp[Sm,gh],by simp[Sm,gh]⟩ hN (Nat.le_succ _) (Nat.le_refl _) (Nat.le_refl _)) ?_;rintro r ⟨N,rfl,hN⟩;exact hnx N hN
 .obtain⟨h1,h2,h3,h4⟩:=h
  simp only[length_cons]at h3;rw[CO,M8,ze,ii];cases hb:(gj x.e&&(bif gj x.e then pt x.Value else false))&&decide ((o.length:Int)<20)
  .exact hnx _ ⟨h1,by omega,by omega,h4⟩
  .simp only[Bool.and_eq_true,decide_eq_true_eq]at hb
   obtain⟨⟨hb1,hb2⟩,hb3⟩:=hb;rw[hb1,cond_true]at hb2;rw[cond_true,zg (by simp only[length_append,length_cons,length_nil];omega)];refine hnx _ ⟨by simp only[length_append,length_cons,length_nil];omega,by simp only[length_append,length_cons,length_nil];omega,by omega,fun y hy=>?_⟩
   rcases mem_append.1 hy with hy|hy
   .exact h4 y hy
   .simp at hy
    subst hy;unfold uh
    rw[hb1,hb2];rfl
theorem yz(a b:eA):C1 a b=some (iQ a b):=rfl
theorem tg:G4=some true:=by
 unfold G4
 rw[CW];rfl
def ga(l:List ab)(d:eA):Int:=((l.filter fun f=>fq f.a d).length:Int)
def up(b:Bool)(n:Int):Int:=bif b then n else 0
theorem Mf{l l':List ab}(h:l.Perm l')(d:eA):ga l d=ga l' d:=by
 unfold ga;rw[(h.filter _).length_eq]
theorem Me(f:ab)(l:List ab)(d:eA):ga (f::l) d=ga l d+up (fq f.a d) 1:=by
 unfold ga up;rw[filter_cons]
 cases fq f.a d <;> simp
section
variable {A:Type} {key:A->eA}
theorem wr{l:List A}(hs:eW key l)(x:A):(gG key x l).Perm (x::gZ key (key x) l):=by
 refine(perm_ext_iff_of_nodup (Fc (yC hs x)) ?_).2 fun y=>?_
 .rw[nodup_cons]
  exact⟨fun h=>(mem_del.1 h).2 rfl,Fc (yB hs _)⟩
 .rw[mem_ins,mem_cons,mem_del]
theorem oA{l:List A}(hs:eW key l){k:eA}{x:A}(h:lk key l k=some x):l.Perm (x::gZ key k l):=by
 obtain⟨h1,h2⟩:=j6 h
 refine(perm_ext_iff_of_nodup (Fc hs) ?_).2 fun y=>?_
 .rw[nodup_cons]
  exact⟨fun h=>(mem_del.1 h).2 h2,Fc (yB hs _)⟩
 .rw[mem_cons,mem_del]
  constructor
  .intro hy
   by_cases e:key y=k
   .exact .inl (qW hs hy h1 (e.trans h2.symm))
   .exact .inr ⟨hy,e⟩
  .rintro(rfl|⟨hy,_⟩)
   .exact h1
   .exact hy
theorem oB{l:List A}{k:eA}(h:lk key l k=none):gZ key k l=l:=by
 unfold gZ;rw[filter_eq_self];intro x hx;have:=lk_none.1 h x hx
 simpa using this
end
theorem oI{l:List ab}(hs:eW (·.a) l)(f:ab)(d:eA):ga (gG (·.a) f l) d=ga l d+up (!(fe l f.a).isSome&&fq f.a d) 1:=by
 rw[Mf (wr hs f),Me]
 cases h:fe l f.a with
 |none=>rw[oB h];rfl
 |some x =>
  rw[Mf (oA hs h) d,Me,(j6 h).2];simp[up]
theorem xd{l:List ab}(hs:eW (·.a) l)(k d:eA):ga (gZ (·.a) k l) d=ga l d-up ((fe l k).isSome&&fq k d) 1:=by
 cases h:fe l k with
 |none=>rw[oB h];simp[up]
 |some x =>
  rw[Mf (oA hs h) d,Me,(j6 h).2];simp only[Option.isSome_some,Bool.true_and];omega
theorem AP(l:List ab)(d:eA):0<=ga l d/\ga l d<=l.length:=by
 unfold ga;have:=length_filter_le (fun f:ab=>fq f.a d) l;omega
theorem xc(l:List ab)(p:eA):decide (0<ga l p)=l.any fun f=>fq f.a p:=by
 rw[Bool.eq_iff_iff,decide_eq_true_eq,any_eq_true];unfold ga;constructor
 .intro h
  obtain⟨x,hx⟩:=exists_mem_of_length_pos (by omega:0<(l.filter fun f=>fq f.a p).length);exact⟨x,(mem_filter.1 hx).1,(mem_filter.1 hx).2⟩
 .rintro⟨x,hx,h⟩
  have:=length_pos_of_mem (mem_filter (p:=fun f:ab=>fq f.a p) |>.2 ⟨hx,h⟩);omega
theorem u7{p d:eA}(h:fq p d=true):d.length<p.length:=by
 obtain⟨r,rfl⟩:=LM h;simp
theorem kT(p:eA)(hp:p.length<=200)(n:Int)(hn:-1<=n/\n<=1)(o0:List aa)(a:List (eA×ab))(m:List (eA×Int))(hm:m.length<=137438953472)(hb:∀d,-4611686018427387904<=(zp m d).getD 0/\(zp m d).getD 0<=4611686018427387904)(b:List (eA×aa))(c:List (eA×ah)) :
  ∃m',FS p n o0 a m b c=some m'/\m'.length<=m.length+200/\∀d,(zp m' d).getD 0=(zp m d).getD 0+up (fq p d) n:=by
 unfold FS KA
 have key:Ends (forL p 0 (fun i_71 c_73 (m3_65:List (eA×Int)) nx_70 (k_69:List (eA×Int)->Option (Bool×List (eA×Int))) =>
  eB ((decide ((c_73.toNat:Int)=47))=true->(0<=(i_71:Int)/\(i_71:Int)<=(p.length:Int))) <|
  callG (decide ((c_73.toNat:Int)=47)) (H0 (List.take i_71 p) o0 a m3_65 b c n) (false,m3_65) fun r_75 =>
  bif ((decide ((c_73.toNat:Int)=47))&&(!r_75.1))then
   some (false,r_75.2)
  else
  nx_70 r_75.2) m (fun m3_65=>some (true,m3_65))) (fun r=>r.2.length<=m.length+200/\∀d,(zp r.2 d).getD 0=(zp m d).getD 0+up (fq p d) n):=by
  refine Gk (fun i r m3=>i+r.length=p.length/\p.drop i=r/\m3.length<=m.length+i/\∀d,(zp m3 d).getD 0=(zp m d).getD 0+up (fq p d&&decide (d.length<i)) n) (fun i s h=>?_) (fun i x r s nx h hnx=>?_) p 0 m ⟨by simp,by simp,by simp,fun d=>by simp[up]⟩
  .obtain⟨h1,h2,h3,h4⟩:=h
   simp only[length_nil]at h1;refine⟨_,rfl,by simp only;omega,fun d=>?_⟩;simp only;rw[h4]
   congr 2
   cases hu:fq p d with
   |false=>rfl
   |true=>have:=u7 hu;simp;omega
  .obtain⟨h1,h2,h3,h4⟩:=h
   simp only[length_cons]at h1
   have hi:i<p.length:=by omega
   have hx:p[i]=x:=by
    have:=drop_eq_getElem_cons hi;rw[h2]at this;exact(List.cons.inj this).1.symm
   have hd':p.drop (i+1)=r:=by
    have:=congrArg List.tail h2
    simpa using this
   rw[zg (by intro _;omega)]
   cases hc:decide ((x.toNat:Int)=47)with
   |false =>
    rw[MM];simp only[Bool.false_and,cond_false];refine hnx _ ⟨by omega,hd',by omega,fun d=>?_⟩;rw[h4]
    congr 2
    cases hu:fq p d with
    |false=>rfl
    |true =>
     obtain⟨j,hj,hj1,rfl⟩:=undB_at.1 hu
     have hji:j≠i:=fun e=>by
      subst e;rw[hx]at hj1;rw[hj1]at hc;cases hc
     simp only[Bool.true_and,length_take];exact decide_eq_decide.2 (by omega)
   |true =>
    have h47:p[i]=47:=by
     rw[hx]
     have h5:x.toNat=47:=by simp only[decide_eq_true_eq]at hc;omega
     exact UInt8.toNat.inj h5
    rw[G8];unfold H0;have hl:=yF s (List.take i p) (IntKind.i64.wrap (((zp s (List.take i p)).getD 0)+n))
    have hl':(eG s (List.take i p) (IntKind.i64.wrap (((zp s (List.take i p)).getD 0)+n))).length<=s.length+1:=by split at hl <;> omega
    simp only[fc];rw[zg (by omega),ze];simp only[Bool.not_true,Bool.and_false,cond_false];refine hnx _ ⟨by omega,hd',by omega,fun d=>?_⟩;rw[ut];have hui:fq p (List.take i p)=true:=undB_at.2 ⟨i,hi,h47,rfl⟩
    by_cases e:List.take i p=d
    .subst e
     rw[if_pos rfl,Option.getD_some,h4]
     have hlen:(List.take i p).length=i:=by simp;omega
     have:=hb (List.take i p);rw[hlen,hui];simp only[Bool.true_and,Nat.lt_irrefl,decide_false,Nat.lt_succ_self,decide_true,up,cond_true,cond_false]
     rw[gI (by omega) (by omega)];omega
    .rw[if_neg e,h4]
     congr 2
     cases hu:fq p d with
     |false=>rfl
     |true =>
      obtain⟨j,hj,hj1,rfl⟩:=undB_at.1 hu
      have hji:j≠i:=fun e'=>e (by rw[e'])
      simp only[Bool.true_and,length_take];exact decide_eq_decide.2 (by omega)
 rw[eH];obtain⟨r,e,h1,h2⟩:=key;rw[e,ze];exact⟨_,rfl,h1,h2⟩
theorem tU(p:eA)(o0:List aa)(a:List (eA×ab))(m:List (eA×Int))(b:List (eA×aa))(c:List (eA×ah)) :
  Hz p o0 a m b c=some (jY (fun i x=>!(decide ((x.toNat:Int)=47)&&(zp a (p.take i)).isSome)) 0 p):=by
 unfold Hz;rw[eH]
 have:∀(l:eA) (i:Nat),p.drop i=l->forL l i (fun i_48 c_50 (s:Unit) nx_47 (k_46:Unit->Option Bool) =>
  eB ((decide ((c_50.toNat:Int)=47))=true->(0<=(i_48:Int)/\(i_48:Int)<=(p.length:Int))) <|
  callG (decide ((c_50.toNat:Int)=47)) (Ib (List.take i_48 p) o0 a m b c) false fun r_52 =>
  bif ((decide ((c_50.toNat:Int)=47))&&(!r_52))then
   some false
  else
  nx_47 ()) () (fun _=>some true)=some (jY (fun i x=>!(decide ((x.toNat:Int)=47)&&(zp a (p.take i)).isSome)) i l):=by
  intro l
  induction l with
  |nil=>intro i _;rfl
  |cons x l ih =>
   intro i hd
   have hi:i<p.length:=by
    rcases Nat.lt_or_ge i p.length with h|h
    .exact h
    .rw[drop_eq_nil_of_le h]at hd;cases hd
   unfold forL jY;simp only[ih (i+1) (by have:=congrArg List.tail hd;simpa using this)];rw[zg (by intro _;omega)];simp only[Ib,fc,ii]
   cases decide ((x.toNat:Int)=47) <;> cases (zp a (List.take i p)).isSome <;> rfl
 exact this p 0 rfl
structure Bn(b:Nat)(m1:List (eA×ab))(m2:List (eA×Int))(m3:List (eA×aa))(m4:List (eA×ah))(M:ai):Prop where
 n1:(m1.map (·.1)).Nodup
 n3:(m3.map (·.1)).Nodup
 n4:(m4.map (·.1)).Nodup
 k1:∀k v,zp m1 k=some v->v.a=k
 k3:∀k v,zp m3 k=some v->v.e=k
 k4:∀k v,zp m4 k=some v->v.j=k
 e1:iy gF fw m1=M.b
 e3:iy (fun _ v=>v) fU m3=M.i
 e4:iy gV fu m4=M.h
 l2:m2.length<=b
 cnt:∀d,(zp m2 d).getD 0=ga M.b d
section
variable {b:Nat} {m1:List (eA×ab)} {m2:List (eA×Int)} {m3:List (eA×aa)} {m4:List (eA×ah)} {M:ai}
theorem Bn.l1(h:Bn b m1 m2 m3 m4 M):m1.length=M.b.length:=by rw[<-h.e1,ES]
theorem Bn.l3(h:Bn b m1 m2 m3 m4 M):m3.length=M.i.length:=by rw[<-h.e3,ES]
theorem Bn.l4(h:Bn b m1 m2 m3 m4 M):m4.length=M.h.length:=by rw[<-h.e4,ES]
theorem Bn.look1(h:Bn b m1 m2 m3 m4 M)(k:eA):zp m1 k=fe M.b k:=by
 rw[<-h.e1];refine Eq.trans ?_ (uK (key:=fun x:ab=>x.a) (g:=gF) (d:=fw) h.k1 k).symm
 cases zp m1 k <;> rfl
theorem Bn.look3(h:Bn b m1 m2 m3 m4 M)(k:eA):zp m3 k=mE M.i k:=by
 rw[<-h.e3];refine Eq.trans ?_ (uK (key:=fun x:aa=>x.e) (g:=fun _ v=>v) (d:=fU) h.k3 k).symm
 cases zp m3 k <;> rfl
theorem Bn.look4(h:Bn b m1 m2 m3 m4 M)(k:eA):zp m4 k=qr M.h k:=by
 rw[<-h.e4];refine Eq.trans ?_ (uK (key:=fun x:ah=>x.j) (g:=gV) (d:=fu) h.k4 k).symm
 cases zp m4 k <;> rfl
theorem Bn.small(h:Bn b m1 m2 m3 m4 M)(hM:Good M)(d:eA):-4611686018427387904<=(zp m2 d).getD 0/\(zp m2 d).getD 0<=4611686018427387904:=by
 rw[h.cnt];have:=AP M.b d;have:=hM.c2;omega
theorem Bn.le(h:Bn b m1 m2 m3 m4 M){b':Nat}(hb:b<=b'):Bn b' m1 m2 m3 m4 M:={ h with l2:=Nat.le_trans h.l2 hb }
theorem Ce(h:Bn b m1 m2 m3 m4 M)(hM:Good M)(hb:b<=137438953472)(f:ab)(hf:f.a.length<=200)(o0:List aa) :
  ∃a c,CY f o0 m1 m2 m3 m4=some (a,c)/\Bn (b+200) a c m3 m4 ⟨M.m,gG (·.a) f M.b,M.i,M.h⟩:=by
 have h1:=h.l1;have hc2:=hM.c2;have hl2:=h.l2;unfold CY;simp only[fc];have hla:=yF m1 f.a f
 have hla':(eG m1 f.a f).length<=274877906944:=by split at hla <;> omega
 have base:∀c:List (eA×Int),c.length<=b+200->(∀d,(zp c d).getD 0=ga (gG (·.a) f M.b) d)->Bn (b+200) (eG m1 f.a f) c m3 m4 ⟨M.m,gG (·.a) f M.b,M.i,M.h⟩:=fun c hc hcnt =>
  { h with
   n1:=yL h.n1 _ _
   k1:=fun k v hv=>by
    rw[ut]at hv;split at hv
    .rename_i e;cases hv;exact e
    .exact h.k1 _ _ hv
   e1:=by rw[<-h.e1];exact E0 (key:=fun x:ab=>x.a) (g:=gF) h.n1 h.k1 _ _ rfl
   l2:=hc
   cnt:=hcnt }
 rw[h.look1]
 cases hs:(fe M.b f.a).isSome with
 |false =>
  obtain⟨m',e,q1,q2⟩:=kT f.a hf 1 ⟨by omega,by omega⟩ o0 m1 m2 (by omega) (h.small hM) m3 m4;simp only[Bool.not_false,cond_true];rw[e,ze,zg hla'];refine⟨_,_,rfl,base _ (by omega) fun d=>?_⟩
  rw[q2,h.cnt,oI hM.g2,hs];rfl
 |true =>
  simp only[Bool.not_true,cond_false];rw[zg hla'];refine⟨_,_,rfl,base _ (by omega) fun d=>?_⟩;rw[h.cnt,oI hM.g2,hs];simp[up]
theorem xJ(h:Bn b m1 m2 m3 m4 M)(hM:Good M)(hb:b<=137438953472)(p:eA)(hf:p.length<=200)(hp:(fe M.b p).isSome=true)(o0:List aa) :
  ∃a c,H6 p o0 m1 m2 m3 m4=some (a,c)/\Bn (b+200) a c m3 m4 ⟨M.m,gZ (·.a) p M.b,M.i,M.h⟩:=by
 have hl2:=h.l2;unfold H6;obtain⟨m',e,q1,q2⟩:=kT p hf (-1) ⟨by omega,by omega⟩ o0 (gg m1 p) m2 (by omega) (h.small hM) m3 m4;rw[e,ze]
 refine⟨_,_,rfl,{ h with
   n1:=CM h.n1 _
   k1:=fun k v hv=>by
    rw[Bm h.n1]at hv;split at hv
    .cases hv
    .exact h.k1 _ _ hv
   e1:=by rw[<-h.e1];exact EZ (key:=fun x:ab=>x.a) (g:=gF) h.n1 h.k1 _
   l2:=by omega
   cnt:=fun d=>?_ }⟩
 show _=ga (gZ (fun x:ab=>x.a) p M.b) d
 rw[q2,h.cnt,xd hM.g2,hp];simp only[Bool.true_and]
 cases fq p d <;> rfl
theorem Bn.put3(h:Bn b m1 m2 m3 m4 M)(f:aa):Bn (b+200) m1 m2 (eG m3 f.e f) m4 ⟨M.m,M.b,gG (·.e) f M.i,M.h⟩ :=
 { h.le (Nat.le_add_right _ _)with
  n3:=yL h.n3 _ _
  k3:=fun k v hv=>by
   rw[ut]at hv;split at hv
   .rename_i e;cases hv;exact e
   .exact h.k3 _ _ hv
  e3:=by rw[<-h.e3];exact E0 (key:=fun x:aa=>x.e) (g:=fun _ v=>v) h.n3 h.k3 _ _ rfl }
theorem Bn.put4(h:Bn b m1 m2 m3 m4 M)(f:ah):Bn (b+200) m1 m2 m3 (eG m4 f.j f) ⟨M.m,M.b,M.i,gG (·.j) f M.h⟩ :=
 { h.le (Nat.le_add_right _ _)with
  n4:=yL h.n4 _ _
  k4:=fun k v hv=>by
   rw[ut]at hv;split at hv
   .rename_i e;cases hv;exact e
   .exact h.k4 _ _ hv
  e4:=by rw[<-h.e4];exact E0 (key:=fun x:ah=>x.j) (g:=gV) h.n4 h.k4 _ _ rfl }
theorem Bn.del3(h:Bn b m1 m2 m3 m4 M)(k:eA):Bn (b+200) m1 m2 (gg m3 k) m4 ⟨M.m,M.b,gZ (·.e) k M.i,M.h⟩ :=
 { h.le (Nat.le_add_right _ _)with
  n3:=CM h.n3 _
  k3:=fun k v hv=>by
   rw[Bm h.n3]at hv;split at hv
   .cases hv
   .exact h.k3 _ _ hv
  e3:=by rw[<-h.e3];exact EZ (key:=fun x:aa=>x.e) (g:=fun _ v=>v) h.n3 h.k3 _ }
theorem Bn.del4(h:Bn b m1 m2 m3 m4 M)(k:eA):Bn (b+200) m1 m2 m3 (gg m4 k) ⟨M.m,M.b,M.i,gZ (·.j) k M.h⟩ :=
 { h.le (Nat.le_add_right _ _)with
  n4:=CM h.n4 _
  k4:=fun k v hv=>by
   rw[Bm h.n4]at hv;split at hv
   .cases hv
   .exact h.k4 _ _ hv
  e4:=by rw[<-h.e4];exact EZ (key:=fun x:ah=>x.j) (g:=gV) h.n4 h.k4 _ }
theorem qI(h:Bn b m1 m2 m3 m4 M)(hM:Good M)(p:eA)(o0:List aa):H3 p o0 m1 m2 m3 m4=some (M.b.any (j3 p)):=by
 unfold H3;rw[tU,ze];simp only[fc];rw[h.cnt,xc]
 congr 1
 have h1:(!jY (fun i x=>!(decide ((x.toNat:Int)=47)&&(zp m1 (p.take i)).isSome)) 0 p)=M.b.any fun f=>fq p f.a:=by
  rw[Bool.eq_iff_iff,Bool.not_eq_true',<-Bool.not_eq_true,Lz,any_eq_true];constructor
  .intro hh
   refine Classical.byContradiction fun hc=>hh fun j hj=>?_
   rw[Nat.zero_add]
   cases hx:decide ((p[j].toNat:Int)=47)with
   |false=>rfl
   |true =>
    have h47:p[j]=47:=by
     have h5:p[j].toNat=47:=by simp only[decide_eq_true_eq]at hx;omega
     exact UInt8.toNat.inj h5
    rw[h.look1]
    cases hl:fe M.b (p.take j)with
    |none=>rfl
    |some f =>
     obtain⟨q1,q2⟩:=j6 hl;exact absurd ⟨f,q1,by rw[q2];exact undB_at.2 ⟨j,hj,h47,rfl⟩⟩ hc
  .rintro⟨f,hf,hu⟩ hall
   obtain⟨j,hj,h47,hd⟩:=undB_at.1 hu;have:=hall j hj;have hl:fe M.b f.a=some f:=sc hM.g2 hf;rw[Nat.zero_add,h47,h.look1,<-hd,hl]at this;cases this
 rw[h1,Bool.eq_iff_iff,Bool.or_eq_true,any_eq_true,any_eq_true,any_eq_true];constructor
 .rintro(⟨f,hf,hu⟩|⟨f,hf,hu⟩)
  .exact⟨f,hf,by unfold j3;rw[hu,Bool.or_true]⟩
  .exact⟨f,hf,by unfold j3;rw[hu];rfl⟩
 .rintro⟨f,hf,hu⟩
  unfold j3 at hu;rw[Bool.or_eq_true]at hu
  rcases hu with hu|hu
  .exact .inr ⟨f,hf,hu⟩
  .exact .inl ⟨f,hf,hu⟩
theorem Oc(h:Bn b m1 m2 m3 m4 M)(hM:Good M)(hb:b<=137438953472)(c:ae)(hc:js c)(o0:List aa) :
  ∃a1 a2 a3 a4,FM c o0 m1 m2 m3 m4=some ((fP c M).1,a1,a2,a3,a4)/\Bn (b+200) a1 a2 a3 a4 (fP c M).2:=by
 have h1:=h.l1;have h3:=h.l3;have h4:=h.l4;have hc1:=hM.c1;have hc2:=hM.c2;have hc3:=hM.c3;have hc4:=hM.c4;have hst:Bn (b+200) m1 m2 m3 m4 M:=h.le (Nat.le_add_right _ _);unfold FM fP;rw[O1 c hc,ze]
 by_cases he:fD c=0
 .rw[decide_eq_true he,Bool.not_true,cond_false,cond_false]
  unfold KZ Ic Ii Ih;simp only[eH,fc,h.look1,h.look3,h.look4,h1,h3,h4,qI h hM,ze];have hlF:IntKind.i64.wrap ((M.b.length:Int)+1)=((M.b.length+1:Nat):Int):=gH _ (by omega);have hlS:IntKind.i64.wrap ((M.i.length:Int)+1)=((M.i.length+1:Nat):Int):=gH _ (by omega);have hlV:IntKind.i64.wrap ((M.h.length:Int)+1)=((M.h.length+1:Nat):Int):=gH _ (by omega);have hdF:decide ((2000:Int)<((M.b.length+1:Nat):Int))=decide (2000<=(M.b.length:Int)):=decide_eq_decide.2 (by omega);have hdS:decide ((2000:Int)<((M.i.length+1:Nat):Int))=decide (2000<=(M.i.length:Int)):=decide_eq_decide.2 (by omega);have hdV:decide ((100:Int)<((M.h.length+1:Nat):Int))=decide (100<=(M.h.length:Int)):=decide_eq_decide.2 (by omega);have F6:decide ((1:Int)<0)=false:=rfl
  rcases L1 he with e|e|e|e|e|e
  all_goals simp only[e,EO,decide_true,cond_true,cond_false,hlF,hlS,hlV,hdF,hdS,hdV,F6]
  .obtain⟨a,c',ep,hp⟩:=Ce h hM hb c.g (qN (x7 (md he e)).1) o0
   rw[ep];cases M.b.any (j3 c.g.a)
   .cases (fe M.b c.g.a).isSome
    .cases decide (2000<=(M.b.length:Int))
     .exact⟨_,_,_,_,rfl,hp⟩
     .exact⟨_,_,_,_,rfl,hst⟩
    .exact⟨_,_,_,_,rfl,hp⟩
   .exact⟨_,_,_,_,rfl,hst⟩
  .have hpo:gp c.g.a=true:=by
    have:=(CA he).2.1;unfold mB at this;rw[e]at this;cases hp:gp c.g.a
    .rw[hp]at this;cases this
    .rfl
   cases hs:(fe M.b c.g.a).isSome
   .exact⟨_,_,_,_,rfl,hst⟩
   .obtain⟨a,c',ep,hp⟩:=xJ h hM hb c.g.a (qN hpo) hs o0
    rw[ep];exact⟨_,_,_,_,rfl,hp⟩
  .have ha:=yF m3 c.o.e c.o
   have ha':(eG m3 c.o.e c.o).length<=274877906944:=by split at ha <;> omega
   rw[zg ha'];cases (mE M.i c.o.e).isSome
   .cases decide (2000<=(M.i.length:Int))
    .exact⟨_,_,_,_,rfl,h.put3 _⟩
    .exact⟨_,_,_,_,rfl,hst⟩
   .exact⟨_,_,_,_,rfl,h.put3 _⟩
  .cases (mE M.i c.o.e).isSome
   .exact⟨_,_,_,_,rfl,hst⟩
   .exact⟨_,_,_,_,rfl,h.del3 _⟩
  .have ha:=yF m4 c.f.j c.f
   have ha':(eG m4 c.f.j c.f).length<=274877906944:=by split at ha <;> omega
   rw[zg ha'];cases (qr M.h c.f.j).isSome
   .cases decide (100<=(M.h.length:Int))
    .exact⟨_,_,_,_,rfl,h.put4 _⟩
    .exact⟨_,_,_,_,rfl,hst⟩
   .exact⟨_,_,_,_,rfl,h.put4 _⟩
  .cases (qr M.h c.f.j).isSome
   .exact⟨_,_,_,_,rfl,hst⟩
   .exact⟨_,_,_,_,rfl,h.del4 _⟩
 .rw[decide_eq_false he]
  exact⟨_,_,_,_,rfl,hst⟩
theorem ub(h:Bn b m1 m2 m3 m4 M)(hM:Good M):F3 M.m m1 m2 m3 m4=some M:=by
 have h1:=h.l1;have h3:=h.l3;have h4:=h.l4;have hc1:=hM.c1;have hc2:=hM.c2;have hc3:=hM.c3;have hc4:=hM.c4;unfold F3 Lb Lo Ln;rw[Mc _ (by omega)];have e1:zQ m1=some ():=rfl;have e2:zF m3=some ():=rfl;have e3:zG m4=some ():=rfl;rw[e1,e2,e3];simp only[eH,ze];have f1:=Fs (Z:=List ab) (g:=gF) (d:=fw) (m:=m1) (k:=some) (fun _ _ _ _ _=>rfl) (by omega);have f2:=Fs (Z:=List aa) (g:=fun _ v=>v) (d:=fU) (m:=m3) (k:=some) (fun _ _ _ _ _=>rfl) (by omega);have f3:=Fs (Z:=List ah) (g:=gV) (d:=fu) (m:=m4) (k:=some) (fun _ _ _ _ _=>rfl) (by omega);rw[h.e1]at f1;rw[h.e3]at f2;rw[h.e4]at f3;refine(congrArg (fun q=>call q _) f1).trans ?_;rw[ze];refine(congrArg (fun q=>call q _) f2).trans ?_;rw[ze];refine(congrArg (fun q=>call q _) f3).trans ?_;rfl
end
theorem qD{M:ai}(h:Good M):∃m1 m2 m3 m4,Hs M=some (m1,m2,m3,m4,M.m)/\Bn 400000 m1 m2 m3 m4 M:=by
 have hc1:=h.c1;have hc2:=h.c2;have hc3:=h.c3;have hc4:=h.c4;unfold Hs;rw[Mc _ (by omega),ze];simp only[eH]
 suffices hs:Ends (forL M.b 0 (fun i_198 f_200 (s:List (eA×ab)×List (eA×Int)) nx_197 (k_196:List (eA×ab)×List (eA×Int)->Option (List (eA×ab)×List (eA×Int)×List (eA×aa)×List (eA×ah)×List aa)) =>
   match s with
   |(m1_192,m2_193) =>
    call (CY f_200 M.m m1_192 m2_193 [] []) fun r_201 =>
    nx_197 (r_201.1,r_201.2)) ([],[]) (fun s=>match s with
   |(m1_117,m2_118) =>
    forL M.i 0 (fun i_183 s_185 m3_177 nx_182 k_181 =>
     eB ((eG m3_177 s_185.e s_185).length<=274877906944) <|
     nx_182 (eG m3_177 s_185.e s_185)) [] fun m3_136 =>
    forL M.h 0 (fun i_167 s_169 m4_161 nx_166 k_165 =>
     eB ((eG m4_161 s_169.j s_169).length<=274877906944) <|
     nx_166 (eG m4_161 s_169.j s_169)) [] fun m4_154 =>
    some (m1_117,m2_118,m3_136,m4_154,M.m))) fun z=>z=(z.1,z.2.1,z.2.2.1,z.2.2.2.1,M.m)/\Bn 400000 z.1 z.2.1 z.2.2.1 z.2.2.2.1 M by
  obtain⟨z,e,h1,h2⟩:=hs;exact⟨_,_,_,_,e.trans (congrArg some h1),h2⟩
 refine Gk (fun i r s=>∃a,M.b=a++r/\a.length=i/\Bn (200*i) s.1 s.2 [] [] ⟨M.m,a,[],[]⟩) (fun i s hi=>?_) (fun i f r s nx hi hnx=>?_) M.b 0 ([],[]) ⟨[],rfl,rfl,?_⟩
 .obtain⟨a,e,hl,hb⟩:=hi
  rw[append_nil]at e;subst e;obtain⟨m1,m2⟩:=s;simp only;refine⟨(m1,m2,kz (·.e) id M.i,kz (·.j) id M.h,M.m),?_,rfl,?_⟩
  .refine(jb (key:=fun x:aa=>x.e) (w:=id) (fun _ _ _ _ _=>rfl) h.s2 (by omega)).trans ?_
   exact jb (key:=fun x:ah=>x.j) (w:=id) (fun _ _ _ _ _=>rfl) h.v2 (by omega)
  .refine { hb with n3:=Ff h.s2,n4:=Ff h.v2,k3:=fun k v hv=>?_,k4:=fun k v hv=>?_,e3:=Gq h.s2 fun _ _=>rfl,e4:=Gq h.v2 fun _ _=>rfl,l2:=Nat.le_trans hb.l2 (by omega) }
   .simp only at hv
    rw[E5]at hv;obtain⟨x,hx,rfl⟩:=Option.map_eq_some_iff.1 hv;exact(j6 hx).2
   .simp only at hv
    rw[E5]at hv;obtain⟨x,hx,rfl⟩:=Option.map_eq_some_iff.1 hv;exact(j6 hx).2
 .obtain⟨a,e,hl,hb⟩:=hi
  have hlen:=congrArg List.length e;simp only[length_append,length_cons]at hlen
  have hsub:∀x∈a,x∈M.b:=fun x hx=>by rw[e];exact mem_append_left _ hx
  have hsrt:eW (·.a) (a++f::r):=e ▸ h.g2;have hsa:eW (·.a) a:=(pairwise_append.1 hsrt).1;have hM':Good ⟨M.m,a,[],[]⟩:=⟨hc1,by simp only;omega,by simp,by simp,h.f1,h.f2,fun x hx=>h.g1 x (hsub x hx),hsa,fun x hx y hy=>h.g3 x (hsub x hx) y (hsub y hy),by simp,by simp[eW],by simp,by simp[eW]⟩
  have hf:f∈M.b:=by rw[e];simp
  obtain⟨p,c,ep,hp⟩:=Ce hb hM' (by omega) f (qN (x7 (h.g1 f hf)).1) M.m;obtain⟨m1,m2⟩:=s;simp only at ep|-;rw[ep,ze]
  have hins:gG (·.a) f a=a++[f]:=by
   unfold gG
   have h1:∀x∈a,x.a<f.a:=fun x hx=>(pairwise_append.1 hsrt).2.2 x hx f (mem_cons_self ..)
   rw[filter_eq_self.2 (fun x hx=>by simpa using h1 x hx),filter_eq_nil_iff.2 (fun x hx=>by simpa using xZ (h1 x hx))]
  refine hnx _ ⟨a++[f],by rw[e];simp,by simp[hl],?_⟩;have hp':=hp;rw[hins]at hp';exact hp'.le (by omega)
 .exact { n1:=by simp,n3:=by simp,n4:=by simp,k1:=fun k v hv=>(by cases hv),k3:=fun k v hv=>(by cases hv),k4:=fun k v hv=>(by cases hv),e1:=by simp[iy,jz,sortS],e3:=by simp[iy,jz,sortS],e4:=by simp[iy,jz,sortS],l2:=by simp,cnt:=fun d=>rfl }
theorem xv{M:ai}(hM:Good M)(l:List ae)(hl:∀c∈l,js c)(hn:l.length<=134217728):Ha M l=some (fY l M):=by
 obtain⟨m1,m2,m3,m4,e,hw⟩:=qD hM;unfold Ha;rw[e,ze];simp only[eH]
 have:∀(l:List ae) (i b:Nat) (m1:List (eA×ab)) (m2:List (eA×Int)) (m3:List (eA×aa)) (m4:List (eA×ah)) (N:ai),(∀c∈l,js c)->b+200*l.length<=137438953472->Good N->N.m=M.m->Bn b m1 m2 m3 m4 N ->
   forL l i (fun i_38 c_40 s nx_37 k_36 =>
    match s with
    |(m3_30,m4_31,m5_32,m6_33) =>
     call (FM c_40 M.m m3_30 m4_31 m5_32 m6_33) fun r_41 =>
     bif !decide (r_41.1=0)then
      some ((ai.mk [] [] [] []),r_41.1)
     else
     nx_37 (r_41.2.1,r_41.2.2.1,r_41.2.2.2.1,r_41.2.2.2.2)) (m1,m2,m3,m4) (fun s=>match s with
    |(m3_30,m4_31,m5_32,m6_33) =>
     call (F3 M.m m3_30 m4_31 m5_32 m6_33) fun r_25 =>
     some (r_25,(0:Int)))=some (fY l N):=by
  intro l
  induction l with
  |nil =>
   intro i b m1 m2 m3 m4 N _ _ hN hF hw;unfold forL;simp only
   rw[<-hF,ub hw hN,ze];rfl
  |cons c l ih =>
   intro i b m1 m2 m3 m4 N hc hb hN hF hw;simp only[length_cons]at hb;unfold forL;simp only;obtain⟨a1,a2,a3,a4,e,hw'⟩:=Oc hw hN (by omega) c (hc c (mem_cons_self ..)) M.m;rw[e,ze];simp only[fY];rw[ih _ _ _ _ _ _ _ (fun x hx=>hc x (mem_cons_of_mem _ hx)) (by omega) (GZ hN c) ((Ke c N).trans hF) hw'];exact g6 _ _ _
 exact this l 0 400000 m1 m2 m3 m4 M hl (by omega) hM rfl hw
theorem MG{M:ai}(hM:Good M)(l:List ae)(hl:∀c∈l,js c)(hn:l.length<=134217728):Bo M l=some (fY l M):=by
 unfold Bo
 rw[Kz M hM.fit,ze,(xX M).2 hM,xv hM l hl hn,ze];rfl
theorem p6{M:ai}(hM:Good M):∀(l:List ae),(fY l M).2=0->Good (fY l M).1/\(fY l M).1.m=M.m:=by
 intro l
 induction l generalizing M with
 |nil=>intro _;exact⟨hM,rfl⟩
 |cons c l ih =>
  intro h;unfold fY at h|-
  cases hd:decide ((fP c M).1=0)with
  |false =>
   rw[hd]at h;simp only[Bool.not_false,cond_true]at h
   rw[h]at hd;cases hd
  |true =>
   rw[hd]at h;simp only[Bool.not_true,cond_false]at h|-;have:=ih (GZ hM c) h;exact⟨this.1,this.2.trans (Ke c M)⟩
section
variable {A:Type} {key:A->eA}
def tz(eqb:A->A->Bool)(o:Option A)(y:A):Bool:=match o with|some x=>eqb x y|none=>false
def r7(key:A->eA)(a b:List A):List A:=a.filter fun x=>!(lk key b (key x)).isSome
def rZ(key:A->eA)(eqb:A->A->Bool)(a b:List A):List A:=b.filter fun y=>!tz eqb (lk key a (key y)) y
theorem KL{p:A->Bool}{l:List A}{i:Nat}(h:i<l.length):(l.take (i+1)).filter p=(l.take i).filter p++bif p l[i]then [l[i]]else []:=by
 rw[take_succ_eq_append_getElem h,filter_append]
 cases hp:p l[i] <;> simp[hp]
theorem PG{l:List A}{x:A}(h:x∈l)(i:Nat):x∈l.take i∨x∈l.drop i:=by
 rw[<-take_append_drop i l]at h;exact mem_append.1 h
theorem Mm{Z:Type}{a b:List A}(ha:eW key a)(hb:eW key b)(hla:a.length<=1073741824)(hlb:b.length<=1073741824){eqb:A->A->Bool}{f:Int×Int×List A×List A->(Int×Int×List A×List A->Option Z)->(Int×Int×List A×List A->Option Z)->Option Z}{K:Int×Int×List A×List A->Option Z}
  (hA:∀(i k:Nat) (o0 o1:List A) nx (hi:i<a.length),k<=b.length->(∀h:k<b.length,key a[i]<key b[k])->o0.length<=i->f ((i:Int),(k:Int),o0,o1) nx K=nx (((i+1:Nat):Int),(k:Int),o0++[a[i]],o1))
  (hB:∀(i k:Nat) (o0 o1:List A) nx (hk:k<b.length),i<=a.length->(∀h:i<a.length,key b[k]<key a[i])->o1.length<=k->f ((i:Int),(k:Int),o0,o1) nx K=nx ((i:Int),((k+1:Nat):Int),o0,o1++[b[k]]))
  (hE:∀(i k:Nat) (o0 o1:List A) nx (hi:i<a.length) (hk:k<b.length),key a[i]=key b[k]->o1.length<=k->f ((i:Int),(k:Int),o0,o1) nx K=nx (((i+1:Nat):Int),((k+1:Nat):Int),o0,bif eqb a[i] b[k]then o1 else o1++[b[k]]))
  (hZ:∀(o0 o1:List A) nx,f ((a.length:Int),(b.length:Int),o0,o1) nx K=K ((a.length:Int),(b.length:Int),o0,o1)) :
  loopN fJ f (0,0,[],[]) K=K ((a.length:Int),(b.length:Int),r7 key a b,rZ key eqb a b):=by
 obtain⟨N,hN⟩:∃N,fJ=N:=⟨_,rfl⟩;have hN2:1099511627776<=N:=hN ▸ un;rw[hN]
 have hget:∀(l:List A) (hl:eW key l) (p q:Nat) (hp:p<q) (hq:q<l.length),key l[p]<key l[q]:=fun l hl p q hp hq=>pairwise_iff_getElem.1 hl p q (by omega) hq hp
 refine(Bj (S:=Int×Int×List A×List A) (fun st=>∃i k:Nat,st=((i:Int),(k:Int),(a.take i).filter (fun x=>!(lk key b (key x)).isSome),(b.take k).filter (fun y=>!tz eqb (lk key a (key y)) y))/\i<=a.length/\k<=b.length /\
   (∀x∈a.take i,∀y∈b.drop k,key x<key y)/\(∀y∈b.take k,∀x∈a.drop i,key y<key x)) (fun st=>(a.length-st.1.toNat)+(b.length-st.2.1.toNat))
   (fun _=>K ((a.length:Int),(b.length:Int),r7 key a b,rZ key eqb a b)) ?_ N _ ⟨0,0,rfl,by omega,by omega,by simp,by simp⟩ (by simp only;omega))
 rintro st nx ⟨i,k,rfl,hi,hk,c1,c2⟩ hnx;simp only at hnx
 have l0:((a.take i).filter (fun x=>!(lk key b (key x)).isSome)).length<=i:=by
  have:=length_filter_le (fun x=>!(lk key b (key x)).isSome) (a.take i)
  rw[length_take]at this;omega
 have l1:((b.take k).filter (fun y=>!tz eqb (lk key a (key y)) y)).length<=k:=by
  have:=length_filter_le (fun y=>!tz eqb (lk key a (key y)) y) (b.take k)
  rw[length_take]at this;omega
 have memD:∀(l:List A) (p q:Nat) (hq:q<l.length),p<=q->l[q]∈l.drop p:=fun l p q hq hp=>by
  rw[mem_drop_iff_getElem];exact⟨q-p,by omega,by congr 1;omega⟩
 have stepA:∀(hia:i<a.length),(∀h:k<b.length,key a[i]<key b[k])->f ((i:Int),(k:Int),(a.take i).filter (fun x=>!(lk key b (key x)).isSome),(b.take k).filter (fun y=>!tz eqb (lk key a (key y)) y)) nx K=K ((a.length:Int),(b.length:Int),r7 key a b,rZ key eqb a b):=by
  intro hia hlt
  have hdrop:∀y∈b.drop k,key a[i]<key y:=fun y hy=>by
   obtain⟨j,hj,rfl⟩:=mem_drop_iff_getElem.1 hy
   by_cases h0:j=0
   .subst h0;exact hlt (by omega)
   .exact Bk (hlt (by omega)) (hget b hb k (k+j) (by omega) (by omega))
  have hno:lk key b (key a[i])=none:=lk_none.2 fun y hy e=>by
   rcases PG hy k with hy|hy
   .exact se (c2 y hy a[i] (memD a i i hia (Nat.le_refl _))) e
   .exact se (hdrop y hy) e.symm
  rw[hA i k _ _ nx hia hk hlt l0];refine hnx _ ⟨i+1,k,?_,by omega,hk,fun x hx y hy=>?_,fun y hy x hx=>c2 y hy x (mem_of_mem_drop (i:=1) (by rwa [drop_drop]))⟩ (by simp only;omega)
  .rw[KL hia,hno];rfl
  .rw[take_succ_eq_append_getElem hia]at hx
   rcases mem_append.1 hx with hx|hx
   .exact c1 x hx y hy
   .simp at hx;subst hx;exact hdrop y hy
 have stepB:∀(hkb:k<b.length),(∀h:i<a.length,key b[k]<key a[i])->f ((i:Int),(k:Int),(a.take i).filter (fun x=>!(lk key b (key x)).isSome),(b.take k).filter (fun y=>!tz eqb (lk key a (key y)) y)) nx K=K ((a.length:Int),(b.length:Int),r7 key a b,rZ key eqb a b):=by
  intro hkb hlt
  have hdrop:∀x∈a.drop i,key b[k]<key x:=fun x hx=>by
   obtain⟨j,hj,rfl⟩:=mem_drop_iff_getElem.1 hx
   by_cases h0:j=0
   .subst h0;exact hlt (by omega)
   .exact Bk (hlt (by omega)) (hget a ha i (i+j) (by omega) (by omega))
  have hno:lk key a (key b[k])=none:=lk_none.2 fun x hx e=>by
   rcases PG hx i with hx|hx
   .exact se (c1 x hx b[k] (memD b k k hkb (Nat.le_refl _))) e
   .exact se (hdrop x hx) e.symm
  rw[hB i k _ _ nx hkb hi hlt l1];refine hnx _ ⟨i,k+1,?_,hi,by omega,fun x hx y hy=>c1 x hx y (mem_of_mem_drop (i:=1) (by rwa [drop_drop])),fun y hy x hx=>?_⟩ (by simp only;omega)
  .rw[KL hkb,hno];rfl
  .rw[take_succ_eq_append_getElem hkb]at hy
   rcases mem_append.1 hy with hy|hy
   .exact c2 y hy x hx
   .simp at hy;subst hy;exact hdrop x hx
 by_cases hia:i<a.length
 .by_cases hkb:k<b.length
  .rcases A9 (key a[i]) (key b[k])with h|h|h
   .exact stepA hia fun _=>h
   .have e1:lk key b (key a[i])=some b[k]:=by rw[h];exact sc hb (getElem_mem hkb)
    have e2:lk key a (key b[k])=some a[i]:=by rw[<-h];exact sc ha (getElem_mem hia)
    rw[hE i k _ _ nx hia hkb h l1];refine hnx _ ⟨i+1,k+1,?_,by omega,by omega,fun x hx y hy=>?_,fun y hy x hx=>?_⟩ (by simp only;omega)
    .rw[KL hia,KL hkb,e1,e2,show tz eqb (some a[i]) b[k]=eqb a[i] b[k]from rfl]
     simp only[Option.isSome_some,Bool.not_true,cond_false,append_nil]
     cases eqb a[i] b[k] <;> simp
    .have hy':y∈b.drop k:=mem_of_mem_drop (i:=1) (by rwa [drop_drop])
     rw[take_succ_eq_append_getElem hia]at hx
     rcases mem_append.1 hx with hx|hx
     .exact c1 x hx y hy'
     .simp at hx;subst hx
      obtain⟨j,hj,rfl⟩:=mem_drop_iff_getElem.1 hy;rw[h];exact hget b hb k (k+1+j) (by omega) (by omega)
    .have hx':x∈a.drop i:=mem_of_mem_drop (i:=1) (by rwa [drop_drop])
     rw[take_succ_eq_append_getElem hkb]at hy
     rcases mem_append.1 hy with hy|hy
     .exact c2 y hy x hx'
     .simp at hy;subst hy
      obtain⟨j,hj,rfl⟩:=mem_drop_iff_getElem.1 hx;rw[<-h];exact hget a ha i (i+1+j) (by omega) (by omega)
   .exact stepB hkb fun _=>h
  .exact stepA hia fun h=>absurd h hkb
 .by_cases hkb:k<b.length
  .exact stepB hkb fun h=>absurd h hia
  .obtain rfl:i=a.length:=by omega
   obtain rfl:k=b.length:=by omega
   rw[hZ,take_length,take_length];rfl
end
def gC(k:eA):ae:=⟨2,⟨k,[],false⟩,fU,fu⟩
def rY(k:eA):ae:=⟨4,fw,⟨k,[]⟩,fu⟩
def rX(k:eA):ae:=⟨6,fw,fU,⟨k,[],false,false⟩⟩
def pn(a b:ai):List ae :=
 (r7 (·.a) a.b b.b).map (fun f=>gC f.a)++(r7 (·.e) a.i b.i).map (fun s=>rY s.e)++(r7 (·.j) a.h b.h).map (fun s=>rX s.j) ++
  (rZ (·.a) jN a.b b.b).map gh++(rZ (·.e) j4 a.i b.i).map iR++(rZ (·.j) jK a.h b.h).map iS
section
variable {A C:Type}
theorem Cz{Z:Type}{g:A->C}{f:Nat->A->List C->(List C->Option Z)->(List C->Option Z)->Option Z}{k:List C->Option Z}(hf:∀i x o nx q,f i x o nx q=eB ((o++[g x]).length<=274877906944) (nx (o++[g x]))) :
  ∀(l:List A) (i:Nat) (o:List C),o.length+l.length<=274877906944->forL l i f o k=k (o++l.map g)
 |[],i,o,_=>by simp[forL]
 |x::l,i,o,h=>by
  simp only[length_cons]at h;unfold forL;rw[hf,zg (by simp only[length_append,length_cons,length_nil];omega),Cz hf l (i+1) _ (by simp only[length_append,length_cons,length_nil];omega)];simp
theorem A8{Z:Type}{q:A->Bool}{g:A->C}{f:Nat->A->List C->(List C->Option Z)->(List C->Option Z)->Option Z}{k:List C->Option Z}(hf:∀i x o nx k',f i x o nx k'=bif q x then eB ((o++[g x]).length<=274877906944) (nx (o++[g x]))else nx o) :
  ∀(l:List A) (i:Nat) (o:List C),o.length+l.length<=274877906944->forL l i f o k=k (o++(l.filter q).map g)
 |[],i,o,_=>by simp[forL]
 |x::l,i,o,h=>by
  simp only[length_cons]at h;unfold forL;rw[hf];cases hq:q x
  .rw[cond_false,A8 hf l (i+1) o (by omega)]
   simp[hq]
  .rw[cond_true,zg (by simp only[length_append,length_cons,length_nil];omega),A8 hf l (i+1) _ (by simp only[length_append,length_cons,length_nil];omega)]
   simp[hq]
theorem E3(key:A->eA)(a b:List A):(r7 key a b).length<=a.length:=length_filter_le _ _
theorem EV(key:A->eA)(e:A->A->Bool)(a b:List A):(rZ key e a b).length<=b.length:=length_filter_le _ _
end
theorem wS(i:Nat)(h:i<1073741824):IntKind.i64.wrap ((i:Int)+1)=((i+1:Nat):Int):=gH i (by omega)
theorem DF(a b:List ab)(ha:eW (·.a) a)(hb:eW (·.a) b)(hla:a.length<=1073741824)(hlb:b.length<=1073741824):H4 a b=some (r7 (·.a) a b,rZ (·.a) jN a b):=by
 unfold H4;rw[eH];refine(Mm (key:=fun x:ab=>x.a) (eqb:=jN) ha hb hla hlb (fun i k o0 o1 nx hi hk hlt hl=>?_) (fun i k o0 o1 nx hk hi hlt hl=>?_) (fun i k o0 o1 nx hi hk he hl=>?_) (fun o0 o1 nx=>?_)).trans rfl
 .have h1:(decide ((i:Int)<(a.length:Int))||decide ((k:Int)<(b.length:Int)))=true:=by simp;omega
  simp only[h1,cond_true,eH]
  by_cases hkb:k<b.length
  .rw[decide_eq_false (by omega),cond_false,decide_eq_false (by omega),cond_false]
   simp only[fF hi,fF hkb,CP,ze,yz,Ct,decide_eq_true (hlt hkb),cond_true,wS i (by omega)];rw[zg (by simp only[length_append,length_cons,length_nil];omega)]
  .rw[decide_eq_true (by omega),cond_true]
   simp only[fF hi,show decide ((-1:Int)<0)=true from rfl,cond_true,wS i (by omega)];rw[zg (by simp only[length_append,length_cons,length_nil];omega)]
 .have h1:(decide ((i:Int)<(a.length:Int))||decide ((k:Int)<(b.length:Int)))=true:=by simp;omega
  simp only[h1,cond_true,eH];rw[decide_eq_false (by omega),cond_false]
  by_cases hia:i<a.length
  .rw[decide_eq_false (by omega),cond_false]
   simp only[fF hia,fF hk,CP,ze,yz,Ct,decide_eq_false (xZ (hlt hia)),decide_eq_true ((mh _ _).2 (hlt hia)),cond_true,cond_false,wS k (by omega)];rw[zg (by simp only[length_append,length_cons,length_nil];omega)]
  .rw[decide_eq_true (by omega),cond_true]
   simp only[fF hk,show decide ((1:Int)<0)=false from rfl,show decide ((0:Int)<1)=true from rfl,cond_true,cond_false,wS k (by omega)];rw[zg (by simp only[length_append,length_cons,length_nil];omega)]
 .have h1:(decide ((i:Int)<(a.length:Int))||decide ((k:Int)<(b.length:Int)))=true:=by simp;omega
  simp only[h1,cond_true,eH];rw[decide_eq_false (by omega),cond_false,decide_eq_false (by omega),cond_false];have hz:iQ a[i].a b[k].a=0:=(E8 _ _).2.2 he;simp only[fF hi,fF hk,CP,ze,yz,hz,Int.lt_irrefl,decide_false,cond_false,wS i (by omega),wS k (by omega)];rw[zg (by simp only[length_append,length_cons,length_nil];omega)];unfold jN
  cases (decide (a[i].a=b[k].a)&&(decide (a[i].q=b[k].q)&&decide (a[i].r=b[k].r))) <;> rfl
 .simp
theorem DE(a b:List aa)(ha:eW (·.e) a)(hb:eW (·.e) b)(hla:a.length<=1073741824)(hlb:b.length<=1073741824):Ig a b=some (r7 (·.e) a b,rZ (·.e) j4 a b):=by
 unfold Ig;rw[eH];refine(Mm (key:=fun x:aa=>x.e) (eqb:=j4) ha hb hla hlb (fun i k o0 o1 nx hi hk hlt hl=>?_) (fun i k o0 o1 nx hk hi hlt hl=>?_) (fun i k o0 o1 nx hi hk he hl=>?_) (fun o0 o1 nx=>?_)).trans rfl
 .have h1:(decide ((i:Int)<(a.length:Int))||decide ((k:Int)<(b.length:Int)))=true:=by simp;omega
  simp only[h1,cond_true,eH]
  by_cases hkb:k<b.length
  .rw[decide_eq_false (by omega),cond_false,decide_eq_false (by omega),cond_false]
   simp only[fF hi,fF hkb,sx,ze,yz,Ct,decide_eq_true (hlt hkb),cond_true,wS i (by omega)];rw[zg (by simp only[length_append,length_cons,length_nil];omega)]
  .rw[decide_eq_true (by omega),cond_true]
   simp only[fF hi,show decide ((-1:Int)<0)=true from rfl,cond_true,wS i (by omega)];rw[zg (by simp only[length_append,length_cons,length_nil];omega)]
 .have h1:(decide ((i:Int)<(a.length:Int))||decide ((k:Int)<(b.length:Int)))=true:=by simp;omega
  simp only[h1,cond_true,eH];rw[decide_eq_false (by omega),cond_false]
  by_cases hia:i<a.length
  .rw[decide_eq_false (by omega),cond_false]
   simp only[fF hia,fF hk,sx,ze,yz,Ct,decide_eq_false (xZ (hlt hia)),decide_eq_true ((mh _ _).2 (hlt hia)),cond_true,cond_false,wS k (by omega)];rw[zg (by simp only[length_append,length_cons,length_nil];omega)]
  .rw[decide_eq_true (by omega),cond_true]
   simp only[fF hk,show decide ((1:Int)<0)=false from rfl,show decide ((0:Int)<1)=true from rfl,cond_true,cond_false,wS k (by omega)];rw[zg (by simp only[length_append,length_cons,length_nil];omega)]
 .have h1:(decide ((i:Int)<(a.length:Int))||decide ((k:Int)<(b.length:Int)))=true:=by simp;omega
  simp only[h1,cond_true,eH];rw[decide_eq_false (by omega),cond_false,decide_eq_false (by omega),cond_false];have hz:iQ a[i].e b[k].e=0:=(E8 _ _).2.2 he;simp only[fF hi,fF hk,sx,ze,yz,hz,Int.lt_irrefl,decide_false,cond_false,wS i (by omega),wS k (by omega)];rw[zg (by simp only[length_append,length_cons,length_nil];omega)];unfold j4
  cases (decide (a[i].e=b[k].e)&&decide (a[i].Value=b[k].Value)) <;> rfl
 .simp
theorem DB(a b:List ah)(ha:eW (·.j) a)(hb:eW (·.j) b)(hla:a.length<=1073741824)(hlb:b.length<=1073741824):Ie a b=some (r7 (·.j) a b,rZ (·.j) jK a b):=by
 unfold Ie;rw[eH];refine(Mm (key:=fun x:ah=>x.j) (eqb:=jK) ha hb hla hlb (fun i k o0 o1 nx hi hk hlt hl=>?_) (fun i k o0 o1 nx hk hi hlt hl=>?_) (fun i k o0 o1 nx hi hk he hl=>?_) (fun o0 o1 nx=>?_)).trans rfl
 .have h1:(decide ((i:Int)<(a.length:Int))||decide ((k:Int)<(b.length:Int)))=true:=by simp;omega
  simp only[h1,cond_true,eH]
  by_cases hkb:k<b.length
  .rw[decide_eq_false (by omega),cond_false,decide_eq_false (by omega),cond_false]
   simp only[fF hi,fF hkb,x8,ze,yz,Ct,decide_eq_true (hlt hkb),cond_true,wS i (by omega)];rw[zg (by simp only[length_append,length_cons,length_nil];omega)]
  .rw[decide_eq_true (by omega),cond_true]
   simp only[fF hi,show decide ((-1:Int)<0)=true from rfl,cond_true,wS i (by omega)];rw[zg (by simp only[length_append,length_cons,length_nil];omega)]
 .have h1:(decide ((i:Int)<(a.length:Int))||decide ((k:Int)<(b.length:Int)))=true:=by simp;omega
  simp only[h1,cond_true,eH];rw[decide_eq_false (by omega),cond_false]
  by_cases hia:i<a.length
  .rw[decide_eq_false (by omega),cond_false]
   simp only[fF hia,fF hk,x8,ze,yz,Ct,decide_eq_false (xZ (hlt hia)),decide_eq_true ((mh _ _).2 (hlt hia)),cond_true,cond_false,wS k (by omega)];rw[zg (by simp only[length_append,length_cons,length_nil];omega)]
  .rw[decide_eq_true (by omega),cond_true]
   simp only[fF hk,show decide ((1:Int)<0)=false from rfl,show decide ((0:Int)<1)=true from rfl,cond_true,cond_false,wS k (by omega)];rw[zg (by simp only[length_append,length_cons,length_nil];omega)]
 .have h1:(decide ((i:Int)<(a.length:Int))||decide ((k:Int)<(b.length:Int)))=true:=by simp;omega
  simp only[h1,cond_true,eH];rw[decide_eq_false (by omega),cond_false,decide_eq_false (by omega),cond_false];have hz:iQ a[i].j b[k].j=0:=(E8 _ _).2.2 he;simp only[fF hi,fF hk,x8,ze,yz,hz,Int.lt_irrefl,decide_false,cond_false,wS i (by omega),wS k (by omega)];rw[zg (by simp only[length_append,length_cons,length_nil];omega)];unfold jK
  cases (decide (a[i].j=b[k].j)&&(decide (a[i].a=b[k].a)&&(decide (a[i].u=b[k].u)&&decide (a[i].t=b[k].t)))) <;> rfl
 .simp
theorem ud{a b:ai}(ha:Good a)(hb:Good b):GW a b=some (pn a b):=by
 have a2:=ha.c2;have a3:=ha.c3;have a4:=ha.c4;have b2:=hb.c2;have b3:=hb.c3;have b4:=hb.c4;have g1:=E3 (·.a) a.b b.b;have g2:=E3 (·.e) a.i b.i;have g3:=E3 (·.j) a.h b.h;have c1:=EV (·.a) jN a.b b.b;have c2:=EV (·.e) j4 a.i b.i;have c3:=EV (·.j) jK a.h b.h;unfold GW;rw[DF _ _ ha.g2 hb.g2 (by omega) (by omega),DE _ _ ha.s2 hb.s2 (by omega) (by omega),DB _ _ ha.v2 hb.v2 (by omega) (by omega)];simp only[ze,eH];refine(Cz (g:=fun f:ab=>gC f.a) (fun _ _ _ _ _=>rfl) _ _ _ (by simp only[length_nil,length_append,length_map];omega)).trans ?_;refine(Cz (g:=fun f:aa=>rY f.e) (fun _ _ _ _ _=>rfl) _ _ _ (by simp only[length_nil,length_append,length_map];omega)).trans ?_;refine(Cz (g:=fun f:ah=>rX f.j) (fun _ _ _ _ _=>rfl) _ _ _ (by simp only[length_nil,length_append,length_map];omega)).trans ?_;refine(Cz (g:=gh) (fun _ _ _ _ _=>rfl) _ _ _ (by simp only[length_nil,length_append,length_map];omega)).trans ?_;refine(Cz (g:=iR) (fun _ _ _ _ _=>rfl) _ _ _ (by simp only[length_nil,length_append,length_map];omega)).trans ?_;refine(Cz (g:=iS) (fun _ _ _ _ _=>rfl) _ _ _ (by simp only[length_nil,length_append,length_map];omega)).trans ?_
 rw[nil_append];rfl
section
variable {V A:Type} {key:A->eA}
theorem CD{g:eA->V->A}{d:V}{m:List (eA×V)}(hk:∀k v,zp m k=some v->key (g k v)=k):(iy g d m).map key=jz m:=by
 unfold iy;rw[map_map]
 conv=>rhs;rw[<-map_id (jz m)]
 refine map_congr_left fun k hkm=>?_
 obtain⟨v,hv⟩:=Option.isSome_iff_exists.1 (mem_keysM.1 hkm);simp only[Function.comp_apply,hv,Option.getD_some,id];exact hk _ _ hv
theorem wv{C:Type}(a b:List A)(g:eA->C)(q:eA->Bool)(hq:∀k,q k=!(lk key b k).isSome):((a.map key).filter q).map g=(r7 key a b).map fun x=>g (key x):=by
 unfold r7
 rw[filter_map,map_map,show(q∘key)=fun x=>!(lk key b (key x)).isSome from funext fun x=>hq _];rfl
theorem xb{C:Type}{a b:List A}(hb:eW key b)(eqb:A->A->Bool)(g:A->C)(g':eA->C)(q:eA->Bool)(hq:∀y∈b,q (key y)=!tz eqb (lk key a (key y)) y)(hg:∀y∈b,g' (key y)=g y) :
  ((b.map key).filter q).map g'=(rZ key eqb a b).map g:=by
 unfold rZ;rw[filter_map,map_map];rw[filter_congr (p:=q∘key) (q:=fun y=>!tz eqb (lk key a (key y)) y) (fun y hy=>hq y hy)]
 exact map_congr_left fun y hy=>hg y (mem_filter.1 hy).1
end
theorem tY{a b:ai}(ha:Good a)(hb:Good b):jw a b=some (pn a b):=by
 have a2:=ha.c2;have a3:=ha.c3;have a4:=ha.c4;have b2:=hb.c2;have b3:=hb.c3;have b4:=hb.c4;obtain⟨p1,p2,p3,ep,hp⟩:=CJ ha;obtain⟨q1,q2,q3,eq,hq⟩:=CJ hb;have l1:=hp.l1;have l2:=hp.l2;have l3:=hp.l3;have m1:=hq.l1;have m2:=hq.l2;have m3:=hq.l3;have ep1:ya p1=some (a.b.map (·.a)):=(xY p1 (by omega)).trans (congrArg some (by rw[<-hp.e1];exact(CD (key:=fun x:ab=>x.a) hp.k1).symm));have ep2:BI p2=some (a.i.map (·.e)):=(xY p2 (by omega)).trans (congrArg some (by rw[<-hp.e2];exact(CD (key:=fun x:aa=>x.e) (fun _ _ _=>rfl)).symm));have ep3:BO p3=some (a.h.map (·.j)):=(xY p3 (by omega)).trans (congrArg some (by rw[<-hp.e3];exact(CD (key:=fun x:ah=>x.j) hp.k3).symm));have eq1:ya q1=some (b.b.map (·.a)):=(xY q1 (by omega)).trans (congrArg some (by rw[<-hq.e1];exact(CD (key:=fun x:ab=>x.a) hq.k1).symm));have eq2:BI q2=some (b.i.map (·.e)):=(xY q2 (by omega)).trans (congrArg some (by rw[<-hq.e2];exact(CD (key:=fun x:aa=>x.e) (fun _ _ _=>rfl)).symm));have eq3:BO q3=some (b.h.map (·.j)):=(xY q3 (by omega)).trans (congrArg some (by rw[<-hq.e3];exact(CD (key:=fun x:ah=>x.j) hq.k3).symm));unfold jw;rw[ep,eq];simp only[ze,eH,fc,ep1,ep2,ep3,eq1,eq2,eq3]
 have hfl:∀{A C:Type} (p:A->Bool) (g:A->C) (l:List A),((l.filter p).map g).length<=l.length:=fun p g l=>by rw[length_map];exact length_filter_le _ _
 have z1:=hfl (fun k=>!(zp q1 k).isSome) gC (a.b.map (·.a));have z2:=hfl (fun k=>!(zp q2 k).isSome) rY (a.i.map (·.e));have z3:=hfl (fun k=>!(zp q3 k).isSome) rX (a.h.map (·.j));have z4:=hfl (fun k=>!(zp p1 k).isSome||!jN ((zp p1 k).getD fw) ((zp q1 k).getD fw)) (fun k=>gh ((zp q1 k).getD fw)) (b.b.map (·.a));have z5:=hfl (fun k=>!(zp p2 k).isSome||!decide ((zp p2 k).getD []=(zp q2 k).getD [])) (fun k=>iR ⟨k,(zp q2 k).getD []⟩) (b.i.map (·.e));have z6:=hfl (fun k=>!(zp p3 k).isSome||!jK ((zp p3 k).getD fu) ((zp q3 k).getD fu)) (fun k=>iS ((zp q3 k).getD fu)) (b.h.map (·.j));simp only[length_map]at z1 z2 z3 z4 z5 z6;refine(A8 (q:=fun k=>!(zp q1 k).isSome) (g:=gC) (fun _ _ _ _ _=>rfl) _ _ _ (by simp only[length_nil,length_append,length_map];omega)).trans ?_;refine(A8 (q:=fun k=>!(zp q2 k).isSome) (g:=rY) (fun _ _ _ _ _=>rfl) _ _ _ (by simp only[length_nil,length_append,length_map];omega)).trans ?_;refine(A8 (q:=fun k=>!(zp q3 k).isSome) (g:=rX) (fun _ _ _ _ _=>rfl) _ _ _ (by simp only[length_nil,length_append,length_map];omega)).trans ?_;refine(A8 (q:=fun k=>!(zp p1 k).isSome||!jN ((zp p1 k).getD fw) ((zp q1 k).getD fw)) (g:=fun k=>gh ((zp q1 k).getD fw)) (fun _ _ _ _ _=>rfl) _ _ _ (by simp only[length_nil,length_append,length_map];omega)).trans ?_;refine(A8 (q:=fun k=>!(zp p2 k).isSome||!decide ((zp p2 k).getD []=(zp q2 k).getD [])) (g:=fun k=>iR ⟨k,(zp q2 k).getD []⟩) (fun _ _ _ _ _=>rfl) _ _ _ (by simp only[length_nil,length_append,length_map];omega)).trans ?_
 refine(A8 (q:=fun k=>!(zp p3 k).isSome||!jK ((zp p3 k).getD fu) ((zp q3 k).getD fu)) (g:=fun k=>iS ((zp q3 k).getD fu)) (fun _ _ _ _ _=>rfl) _ _ _ (by simp only[length_nil,length_append,length_map];omega)).trans ?_;rw[nil_append];refine congrArg some ?_;unfold pn
 have s2:∀k,zp q2 k=(mE b.i k).map (·.Value):=fun k=>by
  rw[<-hq.look2];cases zp q2 k <;> rfl
 have t2:∀k,zp p2 k=(mE a.i k).map (·.Value):=fun k=>by
  rw[<-hp.look2];cases zp p2 k <;> rfl
 rw[wv (key:=fun x:ab=>x.a) a.b b.b gC _ (fun k=>by rw[hq.look1])];rw[wv (key:=fun x:aa=>x.e) a.i b.i rY _ (fun k=>by rw[hq.is2])];rw[wv (key:=fun x:ah=>x.j) a.h b.h rX _ (fun k=>by rw[hq.look3])]
 rw[xb (key:=fun x:ab=>x.a) (a:=a.b) hb.g2 jN gh _ _ (fun y hy=>by
  have hy':fe b.b y.a=some y:=sc hb.g2 hy;rw[hp.look1,hq.look1,hy']
  show _=!tz jN (fe a.b y.a) y
  cases fe a.b y.a <;> rfl) (fun y hy=>by
  have hy':fe b.b y.a=some y:=sc hb.g2 hy
  rw[hq.look1,hy'];rfl)]
 rw[xb (key:=fun x:aa=>x.e) (a:=a.i) hb.s2 j4 iR _ _ (fun y hy=>by
  have hy':mE b.i y.e=some y:=sc hb.s2 hy;rw[t2,s2,hy']
  show _=!tz j4 (mE a.i y.e) y
  cases hx:mE a.i y.e with
  |none=>rfl
  |some x =>
   have:=(j6 hx).2
   simp[tz,j4,this]) (fun y hy=>by
  have hy':mE b.i y.e=some y:=sc hb.s2 hy
  rw[s2,hy'];rfl)]
 rw[xb (key:=fun x:ah=>x.j) (a:=a.h) hb.v2 jK iS _ _ (fun y hy=>by
  have hy':qr b.h y.j=some y:=sc hb.v2 hy;rw[hp.look3,hq.look3,hy']
  show _=!tz jK (qr a.h y.j) y
  cases qr a.h y.j <;> rfl) (fun y hy=>by
  have hy':qr b.h y.j=some y:=sc hb.v2 hy
  rw[hq.look3,hy'];rfl)]
theorem G9{α:Type}(l:List α)(hl:l.length<=137438953472):(uG (fun b_5:Bool=>b_5=true->l=[]) fun b_5 =>
 bif b_5 then
  some []
 else
 eB (([]++l).length<=274877906944) <|
 some ([]++l))=some l:=by
 refine M2 ⟨false,fun h=>by cases h⟩ fun b hb=>?_
 cases b with
 |false=>rw[cond_false,zg (by simp;omega)];rfl
 |true=>rw[hb rfl];rfl
section
variable {b:Nat} {m1:List (eA×ab)} {m2:List (eA×Int)} {m3:List (eA×aa)} {m4:List (eA×ah)} {M:ai}
end
theorem sT{c:ae}{M:ai}(h:fD c≠0):fP c M=(fD c,M):=by
 unfold fP
 rw[decide_eq_false h];rfl
section
variable {b:Nat} {m1:List (eA×ab)} {m2:List (eA×Int)} {m3:List (eA×aa)} {m4:List (eA×ah)} {fs:List aa} {off cut torn:Bool} {after writes:Int}
end
theorem AH{k:eA}(h:gp k=true):fD (gC k)=0:=by
 unfold fD;have h1:qK (gC k)=true:=rfl
 have h2:mB (gC k)=0:=by show(bif !gp k then(5:Int)else 0)=0;rw[h];rfl
 have h3:iM (gC k) (ui (gC k))=true:=by
  show iM (gC k) ⟨2,⟨k,[],false⟩,fU,fu⟩=true
  simp[iM,jN,j4,jK,gC,fU,fu]
 rw[h1,h2,h3];rfl
theorem AE{k:eA}(h:gp k=true):fD (rY k)=0:=by
 unfold fD;have h1:qK (rY k)=true:=rfl
 have h2:mB (rY k)=0:=by show(bif !gp k then(5:Int)else 0)=0;rw[h];rfl
 have h3:iM (rY k) (ui (rY k))=true:=by
  show iM (rY k) ⟨4,fw,⟨k,[]⟩,fu⟩=true
  simp[iM,jN,j4,jK,rY,fw,fu]
 rw[h1,h2,h3];rfl
theorem AK{k:eA}(h:gj k=true):fD (rX k)=0:=by
 unfold fD;have h1:qK (rX k)=true:=rfl
 have h2:mB (rX k)=0:=by show(bif !gj k then(5:Int)else 0)=0;rw[h];rfl
 have h3:iM (rX k) (ui (rX k))=true:=by
  show iM (rX k) ⟨6,fw,fU,⟨k,[],false,false⟩⟩=true
  simp[iM,jN,j4,jK,rX,fw,fU]
 rw[h1,h2,h3];rfl
theorem wP{f:ab}(h:iv f=0):fD (gh f)=0:=by
 unfold fD;have h1:qK (gh f)=true:=rfl;have h2:mB (gh f)=0:=h
 have h3:iM (gh f) (ui (gh f))=true:=by
  show iM (gh f) ⟨1,f,fU,fu⟩=true
  simp[iM,jN,j4,jK,gh,fU,fu]
 rw[h1,h2,h3];rfl
theorem wO{f:aa}(h:jJ f=0):fD (iR f)=0:=by
 unfold fD;have h1:qK (iR f)=true:=rfl;have h2:mB (iR f)=0:=h
 have h3:iM (iR f) (ui (iR f))=true:=by
  show iM (iR f) ⟨3,fw,f,fu⟩=true
  simp[iM,jN,j4,jK,iR,fw,fu]
 rw[h1,h2,h3];rfl
theorem wM{f:ah}(h:jZ f=0):fD (iS f)=0:=by
 unfold fD;have h1:qK (iS f)=true:=rfl;have h2:mB (iS f)=0:=h
 have h3:iM (iS f) (ui (iS f))=true:=by
  show iM (iS f) ⟨5,fw,fU,f⟩=true
  simp[iM,jN,j4,jK,iS,fw,fU]
 rw[h1,h2,h3];rfl
section
variable {M:ai} {l:List ae}
end
section
variable {A:Type} {key:A->eA}
end
section
variable {l:List ae}
end
theorem ue{M:ai}(hM:Good M)(l:List ae)(hl:∀c∈l,js c)(hn:l.length<=134217728):GV M l=some (bif !decide ((fY l M).2=0)then([],(fY l M).2)else(pn (fY l M).1 M,0)):=by
 unfold GV;rw[MG hM l hl hn,ze]
 by_cases h:(fY l M).2=0
 .rw[decide_eq_true h]
  simp only[Bool.not_true,cond_false];rw[ud (p6 hM l h).1 hM,ze]
 .rw[decide_eq_false h];rfl
theorem BZ{A Z:Type}(x:A)(k:A->Option Z):fc x k=k x:=rfl
def pH:eA:=[115,116,97,103,101]
def wJrn:eA:=[115,116,97,103,101,47,106,111,117,114,110,97,108]
def wDone:eA:=[115,116,97,103,101,47,100,111,110,101]
def j7:eA:=[115,116,97,103,101,47,98,97,99,107]
def fM(p:eA):Bool:=fq p pH
theorem Ku(p:eA):Bh p=some (fM p):=by
 unfold Bh;exact(congrArg (fun x=>Vc.call x fun r_2=>some r_2) (LN p pH (by decide))).trans rfl
def iJ(M:ai):ai:=⟨M.m,M.b.filter (fun f=>!fM f.a),M.i,M.h⟩
theorem oc{M:ai}(h:Good M)(q:ab->Bool):Good ⟨M.m,M.b.filter q,M.i,M.h⟩ :=
 { h with
  c2:=Nat.le_trans (length_filter_le _ _) h.c2
  g1:=fun x hx=>h.g1 x (mem_filter.1 hx).1
  g2:=h.g2.filter _
  g3:=fun x hx y hy=>h.g3 x (mem_filter.1 hx).1 y (mem_filter.1 hy).1 }
theorem Hf{M:ai}(h:Good M):Good (iJ M):=oc h _
theorem Wr.keys1{m1:List (eA×ab)}{m2:List (eA×eA)}{m3:List (eA×ah)}{M:ai}(h:Wr m1 m2 m3 M):jz m1=M.b.map (·.a):=by
 rw[<-h.e1];exact(CD (key:=fun x:ab=>x.a) h.k1).symm
theorem Wr.mem_key{m1:List (eA×ab)}{m2:List (eA×eA)}{m3:List (eA×ah)}{M:ai}(h:Wr m1 m2 m3 M){f:ab}(hf:f∈M.b):f.a∈m1.map (·.1):=by
 rw[mem_keys,<-mem_keysM,h.keys1];exact mem_map_of_mem hf
theorem MH{M:ai}(hM:Good M):Cv M=some (iJ M):=by
 obtain⟨m1,m2,m3,e,hw⟩:=CJ hM;unfold Cv;rw[e,ze];simp only[eH];rw[zg hw.n1];refine JO (fun r s=>(r.map (·.1)).Nodup/\Wr s m2 m3 ⟨M.m,M.b.filter (fun f=>!fM f.a||decide (f.a∈r.map (·.1))),M.i,M.h⟩) (fun s hs=>?_) (fun r s nx x j hs hx hnx=>?_) _ _ _ rfl ⟨hw.n1,?_⟩
 .have h2:=hs.2
  simp only[map_nil,not_mem_nil,decide_false,Bool.or_false]at h2;rw[show BQ M.m s m2 m3=some (iJ M)from Oz (M:=iJ M) h2 (Hf hM),ze]
 .obtain⟨hn,hs⟩:=hs
  have hp:=(KD hx).map (fun p:eA×ab=>p.1);rw[map_cons]at hp;have hn':=hp.nodup_iff.1 hn;rw[nodup_cons]at hn';rw[Ku,ze]
  cases hst:fM x.1 with
  |true =>
   rw[cond_true];refine hnx _ ⟨hn'.2,?_⟩;have:=hs.del1 x.1;unfold gZ at this;rw[filter_filter]at this
   have hf:(M.b.filter fun a=>(!decide (a.a=x.1))&&(!fM a.a||decide (a.a∈r.map (·.1))))=M.b.filter fun f=>!fM f.a||decide (f.a∈(r.eraseIdx j).map (·.1)):=by
    refine filter_congr fun f _=>?_
    by_cases h:f.a=x.1
    .rw[decide_eq_true h,h,hst]
     simp only[Bool.not_true,Bool.false_and,Bool.false_or];exact(decide_eq_false hn'.1).symm
    .rw[decide_eq_false h,Bool.not_false,Bool.true_and]
     congr 1
     refine decide_eq_decide.2 ?_;rw[hp.mem_iff,mem_cons];exact⟨fun q=>q.resolve_left h,.inr⟩
   simp only[hf]at this;exact this
  |false =>
   rw[cond_false];refine hnx _ ⟨hn'.2,?_⟩
   have hf:(M.b.filter fun f=>!fM f.a||decide (f.a∈r.map (·.1)))=M.b.filter fun f=>!fM f.a||decide (f.a∈(r.eraseIdx j).map (·.1)):=by
    refine filter_congr fun f _=>?_
    by_cases h:f.a=x.1
    .rw[h,hst];rfl
    .congr 1
     refine decide_eq_decide.2 ?_;rw[hp.mem_iff,mem_cons];exact⟨fun q=>q.resolve_left h,.inr⟩
   rw[hf]at hs;exact hs
 .have hf:(M.b.filter fun f=>!fM f.a||decide (f.a∈m1.map (·.1)))=M.b:=by
   rw[filter_eq_self];intro f hf;rw[decide_eq_true (hw.mem_key hf),Bool.or_true]
  rw[hf];exact hw
structure mH(c:ae):Prop where
 sm:js c
 n:Sm c.f.j
def zeW(c:ae):eA :=
 bif decide (c.k=1)||decide (c.k=2)then [102,105,108,101,32]++c.g.a else
 bif decide (c.k=3)||decide (c.k=4)then [115,101,116,116,105,110,103,32]++c.o.e else [115,101,114,118,105,99,101,32]++c.f.j
theorem qG(c:ae)(h:mH c):Bb c=some (zeW c):=by
 have h1:=h.sm.fp;have h2:=h.sm.sp;have h3:=h.n;unfold Sm at h1 h2 h3;unfold Bb zeW;simp only[eH];rw[zg (by simp;omega),zg (by simp;omega),zg (by simp;omega)]
 cases decide (c.k=1) <;> cases decide (c.k=2) <;> cases decide (c.k=3) <;> cases decide (c.k=4) <;> rfl
def yw(c:ae):Bool:=(decide (c.k=1)||decide (c.k=2))&&(decide (c.g.a=pH)||fM c.g.a)
def ls(M:ai)(l:List ae):Int :=
 bif (fe M.b pH).isSome then 11 else bif !l.all (fun c=>!yw c)then 17 else
 bif !decide ((fY l (iJ M)).2=0)then(fY l (iJ M)).2 else bif decide ((l.length:Int)=0)then 9 else
 bif decide (l.map zeW).Nodup then 0 else 6
theorem OK{Z:Type}(k:Option Z)(z:Z):∀(l:List ae) (i:Nat) (m:List (eA×Bool)),(∀c∈l,mH c)->m.length+l.length<=274877906944->(m.map (·.1)).Nodup->(∀p∈m,p.2=true) ->
  forL l i (fun i_67 c_69 m2_57 nx_66 k_65 =>
   call (Bb c_69) fun r_70 =>
   fc (zp m2_57 r_70) fun q_71 =>
   bif (q_71.getD false)then
    some z
   else
   call (Bb c_69) fun r_73 =>
   eB ((eG m2_57 r_73 true).length<=274877906944) <|
   nx_66 (eG m2_57 r_73 true)) m (fun m2_57=>k)=bif decide (m.map (·.1)++l.map zeW).Nodup then k else some z
 |[],i,m,_,_,hn,_=>by
  unfold forL
  rw[map_nil,append_nil,decide_eq_true hn];rfl
 |c::l,i,m,hl,hlen,hn,ht=>by
  unfold forL;have hc:=qG c (hl c (mem_cons_self ..));have hla:=yF m (zeW c) true;simp only[length_cons]at hlen;dsimp only;rw[hc,ze,ze,BZ]
  cases ha:zp m (zeW c)with
  |some b =>
   have hb:=ht _ (J4 ha);simp only at hb;rw[hb];simp only[Option.getD_some,cond_true]
   rw[decide_eq_false];· rfl
   intro hd;have:=(nodup_append.1 hd).2.2 (zeW c) (mem_keys.2 (by rw[ha];rfl)) (zeW c) (by simp);exact this rfl
  |none =>
   rw[ha]at hla;simp only[Option.getD_none,cond_false];rw[zg (by rw[hla];simp;omega),OK k z l _ _ (fun x hx=>hl x (mem_cons_of_mem _ hx)) (by rw[hla];simp;omega) (yL hn _ _) ?_]
   .rw[G3,ha]
    simp
   .intro p hp
    rw[oV _ _ _ (alook_none.1 ha)]at hp
    rcases mem_append.1 hp with hp|hp
    .exact ht p hp
    .rw[mem_singleton]at hp;rw[hp]
theorem qB(a b c d:Bool):((a||b)&&(c||bif (a||b)&&!c then d else false))=((a||b)&&(c||d)):=by
 cases a <;> cases b <;> cases c <;> rfl
theorem M1{M:ai}(hM:Good M)(l:List ae)(hl:∀c∈l,mH c)(hn:l.length<=134217728):BH M l=some (ls M l):=by
 obtain⟨m1,m2,m3,e,hw⟩:=CJ hM;unfold BH ls;rw[Od M hM.fit,ze,(xX M).2 hM,decide_eq_true rfl,Bool.not_true,cond_false,e,ze,BZ];rw[show zp m1 ([115,116,97,103,101]:eA)=fe M.b pH from hw.look1 _];cases (fe M.b pH).isSome
 .simp only[cond_false,eH]
  rw[sq (fun c=>!yw c) (z:=(17:Int)) fun i c nx k=>?_]
  .cases hd:l.all fun c=>!yw c
   .rfl
   .simp only[cond_true,Bool.not_true,cond_false]
    have hg:=Hf hM;rw[MH hM,ze,J9 _ hg.fit l (fun c hc=>(hl c hc).sm),ze];unfold Ch;rw[(xX _).2 hg,decide_eq_true rfl,Bool.not_true,cond_false];cases hs:decide ((fY l (iJ M)).2=0)
    .rfl
    .simp only[Bool.not_true,cond_false]
     cases h0:decide ((l.length:Int)=0)
     .simp only[cond_false]
      rw[OK _ _ l 0 [] hl (by simp;omega) (by simp) (by simp)];simp only[map_nil,nil_append];exact g6 _ _ _
     .rfl
  .rw[Ku,ii]
   unfold yw;rw[show(decide (c.g.a=([115,116,97,103,101]:eA)))=decide (c.g.a=pH)from rfl,qB,uH]
 .rfl
def Ba(M:ai)(l:List ae):List ae :=
 (l.take 12).foldl (fun o c=>bif decide (ls M (o++[c])=0)then o++[c]else o) []
theorem pM(M:ai)(l:List ae):CK M l true=some l:=rfl
theorem ML(M:ai)(hM:Good M):∀(r:List ae) (i:Nat) (o:List ae),(∀c∈r,mH c)->(∀c∈o,mH c)->o.length+r.length<=1000 ->
  forL r i (fun i_46 c_48 o1_38 nx_45 k_44 =>
  call (zW o1_38) fun r_49 =>
  eB ((r_49++[c_48]).length<=274877906944) <|
  call (BH M (r_49++[c_48])) fun r_51 =>
  bif decide (r_51=0)then
   eB ((o1_38++[c_48]).length<=274877906944) <|
   nx_45 (o1_38++[c_48])
  else
  nx_45 o1_38) o (fun o1_38=>some o1_38)=some (r.foldl (fun o c=>bif decide (ls M (o++[c])=0)then o++[c]else o) o)
 |[],_,_,_,_,_=>rfl
 |c::r,i,o,hr,ho,hn=>by
  unfold forL;simp only[length_cons]at hn
  have ho':∀x∈o++[c],mH x:=fun x hx=>by
   rcases mem_append.1 hx with hx|hx
   .exact ho x hx
   .rw[mem_singleton.1 hx];exact hr c (mem_cons_self ..)
  dsimp only;rw[show zW o=some o from G9 o (by omega),ze,zg (by simp;omega),M1 hM _ ho' (by simp;omega),ze,foldl_cons]
  have hr':∀x∈r,mH x:=fun x hx=>hr x (mem_cons_of_mem _ hx)
  cases decide (ls M (o++[c])=0)
  .simp only[cond_false]
   exact ML M hM r (i+1) o hr' ho (by omega)
  .simp only[cond_true]
   rw[zg (by simp;omega)];exact ML M hM r (i+1) (o++[c]) hr' ho' (by simp;omega)
theorem sC{M:ai}(hM:Good M)(l:List ae)(hl:∀c∈l,mH c)(hn:l.length<=134217728):CK M l false=some (Ba M l):=by
 unfold CK Ba;simp only[cond_false,eH]
 have hmin:(min (l.length:Int) 12).toNat=min l.length 12:=by omega
 rw[zg (by omega),hmin]
 have ht:l.take (min l.length 12)=l.take 12:=by rw[<-take_take,take_of_length_le (by simp;omega)]
 rw[ht];exact ML M hM (l.take 12) 0 [] (fun c hc=>hl c (mem_of_mem_take hc)) (by simp) (by simp;omega)
theorem Om(M:ai):∀(r o:List ae),∀c∈r.foldl (fun o c=>bif decide (ls M (o++[c])=0)then o++[c]else o) o,c∈o∨c∈r
 |[],o,c,h=>.inl h
 |x::r,o,c,h=>by
  rw[foldl_cons]at h
  rcases Om M r _ c h with h|h
  .cases hd:decide (ls M (o++[x])=0) <;> rw[hd]at h
   .exact .inl h
   .rcases mem_append.1 h with h|h
    .exact .inl h
    .rw[mem_singleton.1 h];exact .inr (mem_cons_self ..)
  .exact .inr (mem_cons_of_mem _ h)
theorem Kf{M:ai}{l:List ae}:∀c∈Ba M l,c∈l:=fun c h=>by
 rcases Om M _ _ c h with h|h
 .cases h
 .exact mem_of_mem_take h
theorem Ol(M:ai):∀(r o:List ae),(r.foldl (fun o c=>bif decide (ls M (o++[c])=0)then o++[c]else o) o).length<=o.length+r.length
 |[],o=>Nat.le_refl _
 |x::r,o=>by
  rw[foldl_cons];have:=Ol M r (bif decide (ls M (o++[x])=0)then o++[x]else o)
  have h2:(bif decide (ls M (o++[x])=0)then o++[x]else o).length<=o.length+1:=by
   cases decide (ls M (o++[x])=0) <;> simp
  simp only[length_cons];omega
theorem sB(M:ai)(l:List ae):(Ba M l).length<=12:=by
 have:=Ol M (l.take 12) [];simp only[length_take,length_nil]at this;unfold Ba;omega
noncomputable def i7(s:eA):aj×Int:=(BK s).getD (ZJ,8)
theorem OI(s:eA)(hs:s.length<=4194304):C4 s=some (i7 s)/\BK s=some (i7 s):=by
 obtain⟨L,t,_,_,_,_,h5,h6⟩:=qi s hs;unfold i7;rw[h6];exact⟨h5,rfl⟩
noncomputable def jd(M:ai):aj×Int:=match fe M.b wJrn with
 |none=>(ZJ,0)
 |some f=>bif !decide ((i7 f.q).2=0)then(ZJ,1)else((i7 f.q).1,2)
theorem kP{M:ai}(hM:Good M){f:ab}(hf:f∈M.b):f.q.length<=65536:=(x7 (hM.g1 f hf)).2
theorem tX{M:ai}(hM:Good M):jv M=some (jd M):=by
 obtain⟨m1,m2,m3,e,hw⟩:=CJ hM;unfold jv jd;rw[e,ze,BZ,show zp m1 ([115,116,97,103,101,47,106,111,117,114,110,97,108]:eA)=fe M.b wJrn from hw.look1 _]
 cases h:fe M.b wJrn with
 |none=>rfl
 |some f =>
  have hd:=kP hM (j6 h).1;simp only[Option.isSome_some,Bool.not_true,cond_false,Option.getD_some];rw[(OI f.q (by omega)).2,ze];exact g6 _ _ _
theorem rx(p:eA)(l:List ab):∀(r:List ab) (i:Nat),l.drop i=r ->
  (forL r i (fun i_37 f_39 s nx_36 k_35 =>
  call (FT f_39 p) fun r_40 =>
  bif r_40 then
   some (i_37:Int)
  else
  nx_36 ()) () (fun _=>some (-1))=some (-1)/\fe r p=none) ∨
  ∃j:Nat,∃h:j<l.length,forL r i (fun i_37 f_39 s nx_36 k_35 =>
  call (FT f_39 p) fun r_40 =>
  bif r_40 then
   some (i_37:Int)
  else
  nx_36 ()) () (fun _=>some (-1))=some (j:Int)/\fe r p=some l[j]
 |[],i,_=>.inl ⟨rfl,rfl⟩
 |f::r,i,hd=>by
  have hi:i<l.length:=by
   rcases Nat.lt_or_ge i l.length with h|h
   .exact h
   .rw[drop_eq_nil_of_le h]at hd;cases hd
  have hx:=drop_eq_getElem_cons hi;rw[hd]at hx;obtain⟨h1,h2⟩:=List.cons.inj hx;unfold forL;dsimp only;unfold FT;rw[ze]
  by_cases hp:f.a=p
  .refine .inr ⟨i,hi,?_,?_⟩
   .rw[decide_eq_true hp];rfl
   .show List.find? _ (f::r)=_
    rw[find?_cons_of_pos (by simpa using hp),h1]
  .rw[decide_eq_false hp,cond_false]
   have hf:fe (f::r) p=fe r p:=by
    show List.find? _ (f::r)=List.find? _ r
    rw[find?_cons_of_neg (by simpa using hp)]
   rw[hf];exact rx p l r (i+1) h2.symm
theorem kQ(M:ai)(p:eA):CR M p=some (match fe M.b p with|none=>(fw,false)|some f=>(f,true)):=by
 unfold CR Lh;simp only[eH]
 rcases rx p M.b M.b 0 rfl with⟨h1,h2⟩|⟨j,hj,h1,h2⟩
 .rw[h1,h2,ze];rfl
 .rw[h1,h2,ze,decide_eq_false (by omega),cond_false,fF hj]
theorem Ak{M:ai}(hM:Good M):Hl M=some (jd M):=by
 unfold Hl jd;rw[show CR M ([115,116,97,103,101,47,106,111,117,114,110,97,108]:eA)=_ from kQ M wJrn,ze]
 cases h:fe M.b wJrn with
 |none=>rfl
 |some f =>
  have hd:=kP hM (j6 h).1;simp only[Bool.not_true,cond_false];rw[(OI f.q (by omega)).1,ze];exact g6 _ _ _
def um(last:eA)(M:ai):List ae :=
 ((M.b.map (·.a)).filter (fun k=>!decide (k=last)&&fM k)).map gC++bif decide (last∈M.b.map (·.a))then [gC last]else []
theorem Kb{Z:Type}(last:eA)(K:Bool×List ae->Option Z):∀(l:List eA) (i:Nat) (e:Bool) (o:List ae),o.length+l.length<=100000 ->
  forL l i (fun i_98 s_100 s nx_97 k_96 =>
  match s with
  |(end_89,o4_91) =>
   bif decide (s_100=last)then
    nx_97 (true,o4_91)
   else
   call (Bh s_100) fun r_101 =>
   bif r_101 then
    call (uq s_100) fun r_102 =>
    eB ((o4_91++[r_102]).length<=274877906944) <|
    nx_97 (end_89,o4_91++[r_102])
   else
   nx_97 (end_89,o4_91)) (e,o) (fun s=>match s with
  |(end_89,o4_91)=>K (end_89,o4_91))=K (e||decide (last∈l),o++(l.filter fun k=>!decide (k=last)&&fM k).map gC)
 |[],i,e,o,_=>by
  unfold forL;simp
 |x::l,i,e,o,hn=>by
  unfold forL;simp only[length_cons]at hn;dsimp only
  by_cases hx:x=last
  .rw[decide_eq_true hx,cond_true,Kb last K l (i+1) true o (by omega)]
   subst hx;simp
  .rw[decide_eq_false hx,cond_false,Ku,ze]
   have hm:decide (last∈x::l)=decide (last∈l):=decide_eq_decide.2 (by rw[mem_cons];exact⟨fun q=>q.resolve_left fun e=>hx e.symm,.inr⟩);rw[hm,filter_cons,decide_eq_false hx];cases fM x
   .simp only[cond_false,Bool.and_false,Bool.false_eq_true,if_false]
    rw[Kb last K l (i+1) e o (by omega)]
   .simp only[cond_true,Bool.not_false,Bool.and_self,if_true]
    rw[show uq x=some (gC x)from rfl,ze,zg (by simp;omega),Kb last K l (i+1) e _ (by simp;omega)];simp
theorem qF{m1:List (eA×ab)}{m2:List (eA×eA)}{m3:List (eA×ah)}{M:ai}(hw:Wr m1 m2 m3 M)(hM:Good M)(last:eA)(fs:List aa) :
  FD last fs m1 m2 m3=some (um last M):=by
 have h2:=hM.c2;have hl:=hw.l1;unfold FD um;simp only[eH];rw[show ya m1=some (M.b.map (·.a))from(xY m1 (by omega)).trans (congrArg some hw.keys1),ze];refine(Kb last (fun s=>bif s.1 then call (uq last) fun r_80=>eB ((s.2++[r_80]).length<=274877906944) <| some (s.2++[r_80])else some s.2) (M.b.map (·.a)) 0 false [] (by simp;omega)).trans ?_;simp only[Bool.false_or,nil_append];have hfl:=length_filter_le (fun k=>!decide (k=last)&&fM k) (M.b.map (·.a));rw[length_map]at hfl;cases decide (last∈M.b.map (·.a))
 .simp
 .rw[cond_true,show uq last=some (gC last)from rfl,ze,zg (by simp only[length_append,length_map,length_singleton];omega)]
  rfl
theorem nI{a b:ai}{c:ae}(h:c∈pn a b) :
  (∃f∈a.b,c=gC f.a)∨(∃s∈a.i,c=rY s.e)∨(∃s∈a.h,c=rX s.j)∨(∃f∈b.b,c=gh f)∨(∃s∈b.i,c=iR s)∨(∃s∈b.h,c=iS s):=by
 unfold pn at h;simp only[mem_append,mem_map]at h
 rcases h with((((⟨f,hf,rfl⟩|⟨f,hf,rfl⟩)|⟨f,hf,rfl⟩)|⟨f,hf,rfl⟩)|⟨f,hf,rfl⟩)|⟨f,hf,rfl⟩
 .exact .inl ⟨f,(mem_filter.1 hf).1,rfl⟩
 .exact .inr (.inl ⟨f,(mem_filter.1 hf).1,rfl⟩)
 .exact .inr (.inr (.inl ⟨f,(mem_filter.1 hf).1,rfl⟩))
 .exact .inr (.inr (.inr (.inl ⟨f,(mem_filter.1 hf).1,rfl⟩)))
 .exact .inr (.inr (.inr (.inr (.inl ⟨f,(mem_filter.1 hf).1,rfl⟩))))
 .exact .inr (.inr (.inr (.inr (.inr ⟨f,(mem_filter.1 hf).1,rfl⟩))))
theorem AL{a b:ai}(ha:Good a)(hb:Good b){c:ae}(h:c∈pn a b):fD c=0:=by
 rcases nI h with⟨f,hf,rfl⟩|⟨f,hf,rfl⟩|⟨f,hf,rfl⟩|⟨f,hf,rfl⟩|⟨f,hf,rfl⟩|⟨f,hf,rfl⟩
 .exact AH (x7 (ha.g1 f hf)).1
 .exact AE (JM (ha.s1 f hf)).1
 .exact AK (J6 (ha.v1 f hf)).1
 .exact wP (hb.g1 f hf)
 .exact wO (hb.s1 f hf)
 .exact wM (hb.v1 f hf)
structure Brf(c:ae):Prop where
 fp:c.g.a.length<=1000
 fd:c.g.q.length<=65536
 sk:c.o.e.length<=1000
 sv:c.o.Value.length<=1000
 vn:c.f.j.length<=1000
 vp:c.f.a.length<=1000
theorem Brf.x{c:ae}(h:Brf c):mH c:=⟨⟨by have:=h.fp;unfold Sm;omega,by have:=h.sk;unfold Sm;omega,by have:=h.vp;unfold Sm;omega⟩,by have:=h.vn;unfold Sm;omega⟩
theorem Brf.d{c:ae}(h:Brf c):uE c:=⟨by have:=h.fd;omega,by have:=h.sv;omega⟩
theorem Gf{k:eA}(h:k.length<=1000):Brf (gC k):=⟨h,Nat.zero_le _,Nat.zero_le _,Nat.zero_le _,Nat.zero_le _,Nat.zero_le _⟩
theorem ml{f:ab}(h:f.a.length<=1000)(h':f.q.length<=65536):Brf (gh f):=⟨h,h',Nat.zero_le _,Nat.zero_le _,Nat.zero_le _,Nat.zero_le _⟩
theorem LB{a b:ai}(ha:Good a)(hb:Good b){c:ae}(h:c∈pn a b):Brf c:=by
 have z:=Nat.zero_le
 rcases nI h with⟨f,hf,rfl⟩|⟨f,hf,rfl⟩|⟨f,hf,rfl⟩|⟨f,hf,rfl⟩|⟨f,hf,rfl⟩|⟨f,hf,rfl⟩
 .have:=qN (x7 (ha.g1 f hf)).1
  exact Gf (by omega)
 .have:=qN (JM (ha.s1 f hf)).1
  exact⟨z _,z _,by show f.e.length<=1000;omega,z _,z _,z _⟩
 .have:=OB (J6 (ha.v1 f hf)).1
  exact⟨z _,z _,z _,z _,by show f.j.length<=1000;omega,z _⟩
 .have:=x7 (hb.g1 f hf)
  have h1:=qN this.1;exact ml (by omega) this.2
 .have:=JM (hb.s1 f hf)
  have h1:=qN this.1;have h2:=mR this.2;exact⟨z _,z _,by show f.e.length<=1000;omega,by show f.Value.length<=1000;omega,z _,z _⟩
 .have:=J6 (hb.v1 f hf)
  have h1:=OB this.1;have h2:=qN this.2;exact⟨z _,z _,z _,z _,by show f.j.length<=1000;omega,by show f.a.length<=1000;omega⟩
theorem wT{a b:ai}(ha:Good a)(hb:Good b):(pn a b).length<=10000:=by
 have a2:=ha.c2;have a3:=ha.c3;have a4:=ha.c4;have b2:=hb.c2;have b3:=hb.c3;have b4:=hb.c4;have h1:=E3 (·.a) a.b b.b;have h2:=E3 (·.e) a.i b.i;have h3:=E3 (·.j) a.h b.h;have h4:=EV (·.a) jN a.b b.b;have h5:=EV (·.e) j4 a.i b.i;have h6:=EV (·.j) jK a.h b.h;unfold pn;simp only[length_append,length_map];omega
theorem we{c:ae}(h:Brf c):(uj c).length+1<=300000:=by
 have q1:=Km c.g.q;have q2:=Km c.o.Value;have b1:=Bd c.f.u;have b2:=Bd c.f.t;obtain⟨h1,h2,h3,h4,h5,h6⟩:=h;unfold uj yn m8 iY;cases decide (c.k=1)
 .cases decide (c.k=2)
  .cases decide (c.k=3)
   .cases decide (c.k=4)
    .cases decide (c.k=5)
     .simp only[cond_false,length_append,length_cons,length_nil];omega
     .simp only[cond_false,cond_true,length_append,length_cons,length_nil,b1,b2];omega
    .simp only[cond_false,cond_true,length_append,length_cons,length_nil];omega
   .simp only[cond_false,cond_true,length_append,length_cons,length_nil];omega
  .simp only[cond_false,cond_true,length_append,length_cons,length_nil];omega
 .cases c.g.r <;> (simp only[cond_false,cond_true,length_append,length_cons,length_nil];omega)
theorem kv:∀l:List ae,(∀c∈l,Brf c)->(fG l).length<=300000*l.length
 |[],_=>by simp[fG]
 |c::l,h=>by
  have h1:=we (h c (mem_cons_self ..))
  have h2:=kv l fun d hd=>h d (mem_cons_of_mem _ hd)
  rw[Fv];simp only[length_append,length_cons,length_nil];omega
structure pD(l:List ae):Prop where
 c:∀c∈l,js c
 d:∀c∈l,uE c
 p:(fG l).length<=8589934592
 n:l.length<=4194304
theorem SmL.w{l:List ae}(h:SmL l):pD l:=⟨h.c,h.d,by have:=h.p;omega,h.n⟩
theorem oz{a b:ai}(ha:Good a)(hb:Good b):pD (pn a b):=by
 have h1:=wT ha hb
 have h2:=kv (pn a b) fun c hc=>LB ha hb hc
 exact⟨fun c hc=>(LB ha hb hc).x.sm,fun c hc=>(LB ha hb hc).d,by omega,by omega⟩
theorem pb(l:List ae)(h:pD l)(he:fb l=0):BL l=some (fG l) :=
 Oe l h.d (fun c hc=>(CA (Mh he c hc)).1) (by have:=h.p;omega)
theorem J2(w:eA)(l:List ae)(hw:w.length<=10)(h:pD l):(mC w l).length<=9000000000:=by
 have h1:=h.p;have h2:=Bt h.n;unfold mC;simp only[length_append,length_cons];omega
theorem tW(j:aj)(h1:pD j.y)(h2:pD j.z):yb j=some (pJ j):=by
 unfold yb pJ;rw[CO,ze];cases hn:gj j.v
 .rfl
 have hl:=Gu hn;have g1:=J2 ir _ (by decide) h1;have g2:=J2 ie _ (by decide) h2;have i1:=Bt h1.n;have i2:=Bt h2.n;have p1:=h1.p;have p2:=h2.p;simp only[Bool.not_true,cond_false];rw[Kv _ h1.c,ze,Kv _ h2.c,ze,pd,ze]
 show(bif !decide (eJ j=0)then some ([],eJ j)else _)=_
 cases he:decide (eJ j=0)
 .rfl
 obtain⟨e1,e2⟩:=AD (of_decide_eq_true he);simp only[Bool.not_true,cond_false]
 have hb:((((((((([106,111,117,114,110,97,108,32]:eA)++j.v)++([10,99,104,97,110,103,101,115,32]:eA))++Go.Lib.itoa (j.y.length:Int))++([10]:eA))++fG j.y)++([111,108,100,32]:eA))++Go.Lib.itoa (j.z.length:Int))++([10]:eA))++fG j.z=iF j:=by
  simp[iF,mC,wJou,ir,ie]
 have hbl:(iF j).length<=40000000000:=by
  unfold iF;simp only[length_append,length_cons,show wJou.length=7 from rfl];omega
 have hs:=Fm (iF j)
 have hp:iF j++((([115,117,109,32]:eA)++gy (iF j))++([10]:eA))=lp j:=by
  simp[lp,kf,iW]
 rw[<-hb]at hp hs hbl;rw[zg (by simp;omega),zg (by simp;omega),CH _ h1.n,ze,zg (by simp;omega),zg (by simp;omega),pb _ h1 e1,ze,zg (by simp;omega),zg (by simp;omega),CH _ h2.n,ze,zg (by simp;omega),zg (by simp;omega),pb _ h2 e2,ze,zg (by simp;omega)];rw[MI,ze,zg (by simp only[length_append];rw[hs];simp),zg (by simp only[length_append];rw[hs];simp),zg (by simp only[length_append]at hbl|-;rw[hs];simp only[length_cons,length_nil]at hbl|-;omega)];exact(g6 _ _ _).trans (congrArg (fun t:eA=>some (bif decide (65536<((t.length:Nat):Int))then(([]:eA),(4:Int))else(t,0))) hp)
theorem Kh:∀(l:List ae) {M:ai},Good M->(fY l M).2=0->Good (fY l M).1
 |[],M,h,_=>h
 |c::l,M,h,hs=>by
  unfold fY at hs|-
  by_cases h0:(fP c M).1=0
  .rw[decide_eq_true h0]at hs|-
   exact Kh l (GZ h c) hs
  .rw[decide_eq_false h0]at hs
   exact absurd hs h0
theorem O6{M:ai}{l:List ae}(h:ls M l=0):(fY l (iJ M)).2=0:=by
 unfold ls at h;cases h1:(fe M.b pH).isSome
 .rw[h1,cond_false]at h
  cases h2:!l.all (fun c=>!yw c)
  .rw[h2,cond_false]at h
   cases h3:decide ((fY l (iJ M)).2=0)
   .rw[h3]at h
    exact h
   .exact of_decide_eq_true h3
  .rw[h2]at h;cases h
 .rw[h1]at h;cases h
def qk(M:ai)(id:eA)(l:List ae)(t:eA):List ae :=
 (um wJrn M++[gh ⟨wJrn,t,false⟩])++l++[gh ⟨wDone,id,false⟩,gC wJrn,gC wDone]
def ld(M:ai)(l:List ae):List ae:=pn (fY l (iJ M)).1 (iJ M)
noncomputable def JI(M:ai)(id:eA)(l:List ae):List ae×Int :=
 bif !decide (ls M l=0)then([],ls M l)else bif !gj id then([],5)else
 bif ((fe M.b wDone).isSome||(fe M.b j7).isSome)||decide ((jd M).2=2)then([],12)else
 bif !decide ((pJ ⟨id,l,ld M l⟩).2=0)then([],(pJ ⟨id,l,ld M l⟩).2)else
 bif !decide ((fY (qk M id l (pJ ⟨id,l,ld M l⟩).1) M).2=0)then([],(fY (qk M id l (pJ ⟨id,l,ld M l⟩).1) M).2)else(qk M id l (pJ ⟨id,l,ld M l⟩).1,0)
theorem kU{M:ai}(hM:Good M)(last:eA):(um last M).length<=2001:=by
 have h2:=hM.c2;have hfl:=length_filter_le (fun k=>!decide (k=last)&&fM k) (M.b.map (·.a));rw[length_map]at hfl;unfold um
 cases decide (last∈M.b.map (·.a)) <;> (simp only[cond_true,cond_false,length_append,length_map,length_singleton,length_nil];omega)
theorem nu{M:ai}(hM:Good M){k:eA}(h:k∈M.b.map (·.a)):k.length<=1000:=by
 obtain⟨f,hf,rfl⟩:=mem_map.1 h;have:=qN (x7 (hM.g1 f hf)).1;omega
theorem tI{M:ai}(hM:Good M)(last:eA):∀c∈um last M,Brf c:=fun c hc=>by
 unfold um at hc
 rcases mem_append.1 hc with hc|hc
 .obtain⟨k,hk,rfl⟩:=mem_map.1 hc
  exact Gf (nu hM (mem_filter.1 hk).1)
 .cases hd:decide (last∈M.b.map (·.a)) <;> rw[hd]at hc
  .cases hc
  .rw[mem_singleton.1 hc]
   exact Gf (nu hM (of_decide_eq_true hd))
theorem vU{j:aj}(h:(pJ j).2=0):(pJ j).1.length<=65536:=by
 obtain⟨ok,e⟩:=IX h;rw[e];exact ok.len
theorem rf{M:ai}(hM:Good M){id:eA}(hid:id.length<=40){l:List ae}(hl:∀c∈l,mH c){t:eA}(ht:t.length<=65536):∀c∈qk M id l t,mH c:=fun c hc=>by
 unfold qk at hc;simp only[mem_append,mem_cons,not_mem_nil,or_false]at hc
 rcases hc with((hc|rfl)|hc)|rfl|rfl|rfl
 .exact(tI hM _ c hc).x
 .exact(ml (f:=⟨wJrn,t,false⟩) (show wJrn.length<=1000 by decide) ht).x
 .exact hl c hc
 .exact(ml (f:=⟨wDone,id,false⟩) (show wDone.length<=1000 by decide) (by show id.length<=65536;omega)).x
 .exact(Gf (by decide)).x
 .exact(Gf (by decide)).x
theorem A3{M:ai}(hM:Good M)(l:List ae)(hl:∀c∈l,mH c)(hs:(fY l M).2=0):ju M l=some (pn (fY l M).1 M,0):=by
 unfold ju;rw[J9 M hM.fit l (fun c hc=>(hl c hc).sm),ze];unfold Ch;rw[(xX _).2 hM,decide_eq_true rfl,Bool.not_true,cond_false,decide_eq_true hs,Bool.not_true,cond_false,tY (Kh l hM hs) hM,ze]
theorem ph{M:ai}(hM:Good M)(id:eA)(l:List ae)(hl:∀c∈l,mH c)(hw:pD l):GB M id l=some (JI M id l):=by
 obtain⟨m1,m2,m3,e,hr⟩:=CJ hM;have hn:=hw.n;have hcl:=kU hM wJrn;unfold GB JI;rw[M1 hM l hl (by omega),ze]
 by_cases h0:ls M l=0
 .rw[decide_eq_true h0,Bool.not_true,cond_false,cond_false,e,ze,BZ,BZ,tX hM,ze,CO,ze]
  cases hid:gj id
  .rfl
  have hidl:=Gu hid;have hs:=O6 h0;have hgc:=Hf hM;have hg:=Kh l hgc hs;simp only[Bool.not_true,cond_false];rw[show zp m1 ([115,116,97,103,101,47,100,111,110,101]:eA)=fe M.b wDone from hr.look1 _,show zp m1 ([115,116,97,103,101,47,98,97,99,107]:eA)=fe M.b j7 from hr.look1 _]
  cases ((fe M.b wDone).isSome||(fe M.b j7).isSome)||decide ((jd M).2=2)
  .simp only[cond_false]
   rw[MH hM,ze,A3 hgc l hl hs,ze,decide_eq_true rfl,Bool.not_true,cond_false];rw[show yb ⟨id,l,pn (fY l (iJ M)).1 (iJ M)⟩=some (pJ ⟨id,l,ld M l⟩)from tW ⟨id,l,ld M l⟩ hw (oz hg hgc),ze]
   by_cases hp:(pJ ⟨id,l,ld M l⟩).2=0
   .have hpl:=vU hp
    rw[decide_eq_true hp,Bool.not_true,cond_false,cond_false];rw[show FD ([115,116,97,103,101,47,106,111,117,114,110,97,108]:eA) M.m m1 m2 m3=some (um wJrn M)from qF hr hM wJrn M.m,ze];rw[show k7 ([115,116,97,103,101,47,106,111,117,114,110,97,108]:eA) (pJ ⟨id,l,ld M l⟩).1=some (gh ⟨wJrn,(pJ ⟨id,l,ld M l⟩).1,false⟩)from rfl,ze];rw[zg (by simp only[length_append,length_singleton];omega),zg (by simp only[length_append,length_singleton];omega)]
    rw[show k7 ([115,116,97,103,101,47,100,111,110,101]:eA) id=some (gh ⟨wDone,id,false⟩)from rfl,ze,show uq ([115,116,97,103,101,47,106,111,117,114,110,97,108]:eA)=some (gC wJrn)from rfl,ze,
     show uq ([115,116,97,103,101,47,100,111,110,101]:eA)=some (gC wDone)from rfl,ze]
    rw[zg (by simp only[length_append,length_singleton,length_cons,length_nil];omega)];rw[show xQ M (((um wJrn M++[gh ⟨wJrn,(pJ ⟨id,l,ld M l⟩).1,false⟩])++l)++[gh ⟨wDone,id,false⟩,gC wJrn,gC wDone])=some (Ch M (qk M id l (pJ ⟨id,l,ld M l⟩).1))from J9 M hM.fit _ (fun c hc=>(rf hM hidl hl hpl c hc).sm),ze];unfold Ch;rw[(xX _).2 hM,decide_eq_true rfl,Bool.not_true,cond_false];exact g6 _ _ _
   .rw[decide_eq_false hp];rfl
  .rfl
 .rw[decide_eq_false h0];rfl
section
variable {m1:List (eA×ab)} {m2:List (eA×eA)} {m3:List (eA×ah)} {fs:List aa} {off armed torn:Bool} {after writes:Int}
end
theorem Kj(p:eA):BC p=some (fM p):=Ku p
theorem mq{α:Type}{g:α->Option Bool}(q:α->Bool)(hg:∀x,g x=some (q x)):∀(l:List α) (i:Nat),
  ∃n:Int,forL l i (fun i f s nx k=>call (g f) fun r=>bif r then some (i:Int)else nx ()) () (fun _=>some (-1))=some n/\decide (0<=n)=l.any q
 |[],i=>⟨-1,rfl,rfl⟩
 |x::l,i=>by
  unfold forL;dsimp only;rw[hg,ze,any_cons];cases q x
  .rw[cond_false,Bool.false_or]
   exact mq q hg l (i+1)
  .exact⟨i,rfl,by rw[Bool.true_or];exact decide_eq_true (by omega)⟩
theorem xx(l:List ab)(p:eA):l.any (fun f=>decide (f.a=p))=(fe l p).isSome:=by
 induction l with
 |nil=>rfl
 |cons x l ih =>
  rw[any_cons]
  show _=(List.find? _ (x::l)).isSome
  by_cases h:x.a=p
  .rw[find?_cons_of_pos (by simpa using h),decide_eq_true h];rfl
  .rw[find?_cons_of_neg (by simpa using h),decide_eq_false h,Bool.false_or];exact ih
theorem tG(l:List ab):zS l=some (fe l pH).isSome:=by
 unfold zS Lf;simp only[eH];obtain⟨n,h1,h2⟩:=mq (g:=KX) (fun f:ab=>decide (f.a=pH)) (fun _=>rfl) l 0;rw[h1,ze,h2,xx]
def yu(M:ai):Bool:=M.b.any fun f=>fM f.a
theorem tF(M:ai):zR M.b=some (yu M):=by
 unfold zR Lg;simp only[eH];obtain⟨n,h1,h2⟩:=mq (g:=HL) (fun f:ab=>fM f.a) (fun f=>by unfold HL;rw[Kj,ze]) M.b 0
 rw[h1,ze,h2];rfl
theorem kV(f:ab):BB f=some (fM f.a):=by unfold BB;rw[Kj,ze]
theorem rA(l:List ab)(i:Nat)(h:i<l.length):l.getD i (ab.mk [] [] false)=l[i]:=by
 rw[getD_eq_getElem?_getD,getElem?_eq_getElem h];rfl
theorem wA(l:List ab)(hl:l.length<=100000):∃n:Int,zY l=some n /\
  ((n=-1/\∀f∈l,fM f.a=false)∨∃j:Nat,n=j/\∃h:j<l.length,fM (l[j]).a=true/\∀f∈l.take j,fM f.a=false):=by
 unfold zY;obtain⟨N,hN⟩:∃N,fJ=N:=⟨_,rfl⟩;have hF:1099511627776<=N:=hN ▸ un;rw[hN];simp only[eH,take_length]
 have key:∀(m i:Nat),m+i=l.length->(∀f∈l.take i,fM f.a=false)->∀N,m<N->∃n:Int,
   loopN N (fun t8_31 nx_36 k_35 =>
  bif decide (t8_31<(l.length:Int))then
   eB (0<=t8_31/\t8_31<(l.length:Int)) <|
   call (BB (ab.mk ((l.getD (t8_31.toNat:Nat) (ab.mk [] [] false)).a) ((l.getD (t8_31.toNat:Nat) (ab.mk [] [] false)).q) ((l.getD (t8_31.toNat:Nat) (ab.mk [] [] false)).r))) fun r_38 =>
   bif r_38 then
    some t8_31
   else
   nx_36 (IntKind.i64.wrap (t8_31+1))
  else
  k_35 t8_31) (i:Int) (fun t8_31=>some (-1))=some n /\
  ((n=-1/\∀f∈l,fM f.a=false)∨∃j:Nat,n=j/\∃h:j<l.length,fM (l[j]).a=true/\∀f∈l.take j,fM f.a=false):=by
  intro m
  induction m with
  |zero =>
   intro i hi hp N hN;obtain⟨N,rfl⟩:∃M,N=M+1:=⟨N-1,by omega⟩;unfold loopN;dsimp only;rw[decide_eq_false (by omega),cond_false];refine⟨-1,rfl,.inl ⟨rfl,?_⟩⟩;rw[show i=l.length by omega,take_length]at hp;exact hp
  |succ m ih =>
   intro i hi hp N hN;obtain⟨N,rfl⟩:∃M,N=M+1:=⟨N-1,by omega⟩
   have hil:i<l.length:=by omega
   unfold loopN;dsimp only;rw[decide_eq_true (by omega),cond_true,zg (by omega),Int.toNat_natCast,rA l i hil,kV,ze];cases hs:fM (l[i]).a
   .rw[cond_false,gH i (by omega)]
    refine ih (i+1) (by omega) (fun f hf=>?_) N (by omega);rw[take_succ_eq_append_getElem hil]at hf
    rcases mem_append.1 hf with hf|hf
    .exact hp f hf
    .rw[mem_singleton.1 hf];exact hs
   .rw[cond_true]
    exact⟨i,rfl,.inr ⟨i,rfl,hil,hs,hp⟩⟩
 exact key l.length 0 rfl (by simp) N (by omega)
theorem MR{l:List ab}(h:∀f∈l,fM f.a=false):l.filter (fun f=>!fM f.a)=l:=by
 rw[filter_eq_self];intro f hf
 rw[h f hf];rfl
theorem Eo(l:List ab)(hl:l.length<=100000):∃z,zV l=some z/\List.take z.2.1 (List.drop z.1 z.2.2)=l.filter fun f=>!fM f.a:=by
 obtain⟨n,e,h⟩:=wA l hl;unfold zV;rw[e,ze]
 rcases h with⟨rfl,h⟩|⟨j,rfl,hj,hs,hp⟩
 .rw[decide_eq_true rfl,cond_true]
  refine⟨_,rfl,?_⟩;simp only[drop_zero,take_length];exact(MR h).symm
 .rw[decide_eq_false (by omega),cond_false,gH j (by omega)]
  obtain⟨N,hN⟩:∃N,fJ=N:=⟨_,rfl⟩;have hF:1099511627776<=N:=hN ▸ un;rw[hN];simp only[eH]
  have key:∀(m i j:Nat) (o:List ab),m+j=l.length->i<j->o.length=l.length->o.take i=(l.take j).filter (fun f=>!fM f.a)->o.drop j=l.drop j->∀N,m<N->∃z:Nat×Nat×List ab,
    loopN N (fun s nx_99 k_98 =>
  match s with
  |(i_89,j_90,o0_91) =>
   bif decide (j_90<((List.take l.length o0_91).length:Int))then
    eB (0<=j_90/\j_90<(l.length:Int)) <|
    eB (j_90.toNat<o0_91.length) <|
    call (BB (ab.mk ((o0_91.getD (j_90.toNat:Nat) (ab.mk [] [] false)).a) ((o0_91.getD (j_90.toNat:Nat) (ab.mk [] [] false)).q) ((o0_91.getD (j_90.toNat:Nat) (ab.mk [] [] false)).r))) fun r_103 =>
    bif !r_103 then
     eB (0<=i_89/\i_89<(l.length:Int)) <|
     eB (i_89.toNat<o0_91.length) <|
     nx_99 (IntKind.i64.wrap (i_89+1),IntKind.i64.wrap (j_90+1),List.set o0_91 (i_89.toNat:Nat) (ab.mk ((o0_91.getD (j_90.toNat:Nat) (ab.mk [] [] false)).a) ((o0_91.getD (j_90.toNat:Nat) (ab.mk [] [] false)).q) ((o0_91.getD (j_90.toNat:Nat) (ab.mk [] [] false)).r)))
    else
    nx_99 (i_89,IntKind.i64.wrap (j_90+1),o0_91)
   else
   k_98 (i_89,j_90,o0_91)) ((i:Int),(j:Int),o) (fun s=>match s with
  |(i_78,j_90,o0_79) =>
   eB (0<=i_78/\i_78<=(l.length:Int)) <|
   eB (0<=i_78/\i_78<=(l.length:Int)) <|
   some (0,i_78.toNat,List.take i_78.toNat o0_79++List.replicate (l.length-i_78.toNat) (ab.mk [] [] false)++List.drop (i_78.toNat+(l.length-i_78.toNat)) o0_79))=some z/\List.take z.2.1 (List.drop z.1 z.2.2)=l.filter fun f=>!fM f.a:=by
   intro m
   induction m with
   |zero =>
    intro i j o hm hij ho ht hd N hN;obtain⟨N,rfl⟩:∃M,N=M+1:=⟨N-1,by omega⟩;unfold loopN;dsimp only;rw[decide_eq_false (by rw[length_take];omega),cond_false,zg (by omega),zg (by omega)];refine⟨_,rfl,?_⟩;simp only[Int.toNat_natCast,drop_zero];rw[append_assoc,take_append_of_le_length (by rw[length_take];omega),take_take,Nat.min_self,ht,show j=l.length by omega,take_length]
   |succ m ih =>
    intro i j o hm hij ho ht hd N hN;obtain⟨N,rfl⟩:∃M,N=M+1:=⟨N-1,by omega⟩
    have hjl:j<l.length:=by omega
    have hjo:j<o.length:=by omega
    have hoj:o[j]=l[j]:=by
     have h1:=drop_eq_getElem_cons hjo;have h2:=drop_eq_getElem_cons hjl;rw[hd,h2]at h1;exact(List.cons.inj h1).1.symm
    have hd':o.drop (j+1)=l.drop (j+1):=by
     have:=congrArg List.tail hd
     simpa using this
    unfold loopN;dsimp only;rw[decide_eq_true (by rw[length_take];omega),cond_true,zg (by omega),zg (by omega),Int.toNat_natCast,rA o j hjo,kV,ze,hoj]
    have htk:(l.take (j+1)).filter (fun f=>!fM f.a)=(l.take j).filter (fun f=>!fM f.a)++(if fM (l[j]).a then []else [l[j]]):=by
     rw[take_succ_eq_append_getElem hjl,filter_append]
     congr 1
     rw[filter_cons,filter_nil]
     cases fM (l[j]).a <;> rfl
    rw[gH j (by omega)];cases hs:fM (l[j]).a
    .rw[Bool.not_false,cond_true,zg (by omega),zg (by omega),Int.toNat_natCast,gH i (by omega)]
     refine ih (i+1) (j+1) _ (by omega) (by omega) (by rw[length_set];exact ho) ?_ ?_ N (by omega)
     .rw[htk,hs,<-ht,Gz o i _ (by omega)];rfl
     .rw[drop_set_of_lt (by omega)];exact hd'
    .rw[Bool.not_true,cond_false]
     refine ih i (j+1) o (by omega) (by omega) ho ?_ hd' N (by omega)
     rw[htk,hs,ht];simp
  refine key (l.length-(j+1)) j (j+1) l (by omega) (by omega) rfl ?_ rfl N (by omega);rw[take_succ_eq_append_getElem hj,filter_append,MR hp,filter_cons,hs];simp
theorem tH{M:ai}(h:Good M):HJ M=some (M.m,M.b,M.i,M.h,M.m,M.b,M.i,M.h):=by
 have a1:=h.c1;have a2:=h.c2;have a3:=h.c3;have a4:=h.c4;unfold HJ;rw[show zt M.m=some M.m from G9 M.m (by omega),show Ld M.b=some M.b from G9 M.b (by omega),show zt M.i=some M.i from G9 M.i (by omega),show Li M.h=some M.h from G9 M.h (by omega)];rfl
theorem LA{M:ai}(h:Good M):CQ M=some (iJ M):=by
 have a2:=h.c2;obtain⟨z,e,hz⟩:=Eo M.b (by omega);unfold CQ;rw[tH h,ze,e,ze,hz];rfl
def jF(c:ae):al:=bif decide (c.k=1)||decide (c.k=2)then⟨1,c.g.a⟩else bif decide (c.k=3)||decide (c.k=4)then⟨2,c.o.e⟩else⟨3,c.f.j⟩
theorem OJ(c:ae):yO c=some (jF c):=by
 unfold yO jF;simp only[eH]
 cases decide (c.k=1) <;> cases decide (c.k=2) <;> cases decide (c.k=3) <;> cases decide (c.k=4) <;> rfl
def mP(p:al):eA:=(bif decide (p.kind=1)then [102,105,108,101,32]else bif decide (p.kind=2)then [115,101,116,116,105,110,103,32]else [115,101,114,118,105,99,101,32])++p.name
theorem JW(c:ae):zeW c=mP (jF c):=by
 unfold zeW jF mP
 cases decide (c.k=1)||decide (c.k=2)
 .cases decide (c.k=3)||decide (c.k=4) <;> rfl
 .rfl
theorem O8(c:ae):(jF c).kind=1∨(jF c).kind=2∨(jF c).kind=3:=by
 unfold jF
 cases decide (c.k=1)||decide (c.k=2)
 .cases decide (c.k=3)||decide (c.k=4)
  .exact .inr (.inr rfl)
  .exact .inr (.inl rfl)
 .exact .inl rfl
theorem sA{p q:al}(hp:p.kind=1∨p.kind=2∨p.kind=3)(hq:q.kind=1∨q.kind=2∨q.kind=3)(h:mP p=mP q):p=q:=by
 obtain⟨k,a⟩:=p;obtain⟨k',b⟩:=q;unfold mP at h;simp only at hp hq h
 rcases hp with rfl|rfl|rfl <;> rcases hq with rfl|rfl|rfl <;> simp at h <;> first|(rw[h])|skip
theorem lO(l:List ae):decide (l.map jF).Nodup=decide (l.map zeW).Nodup:=by
 refine decide_eq_decide.2 ?_;unfold List.Nodup;rw[pairwise_map,pairwise_map];refine⟨fun h=>h.imp fun {a b} h e=>?_,fun h=>h.imp fun {a b} h e=>?_⟩
 .rw[JW,JW]at e
  exact h (sA (O8 a) (O8 b) e)
 .exact h (by rw[JW,JW,e])
theorem nJ{K V:Type}[DecidableEq K]:∀(m:List (K×V)) (k:K) (v:V) (p:K×V),p∈eG m k v->p=(k,v)∨p∈m
 |[],k,v,p,h=>by
  unfold eG at h;exact .inl (mem_singleton.1 h)
 |q::m,k,v,p,h=>by
  by_cases e:q.1=k
  .rw[rO e]at h
   rcases mem_cons.1 h with h|h
   .exact .inl h
   .exact .inr (mem_cons_of_mem _ h)
  .rw[rN e]at h
   rcases mem_cons.1 h with h|h
   .exact .inr (by rw[h];exact mem_cons_self ..)
   .exact(nJ m k v p h).imp id (mem_cons_of_mem _)
theorem O9{Z:Type}(k:Option Z)(z:Z):∀(l:List ae) (i:Nat) (m:List (al×Bool)),m.length+l.length<=274877906944->(m.map (·.1)).Nodup->(∀p∈m,p.2=true) ->
  forL l i (fun i_67 c_69 m2_57 nx_66 k_65 =>
   call (yO c_69) fun r_70 =>
   fc (zp m2_57 r_70) fun q_71 =>
   bif (q_71.getD false)then
    some z
   else
   call (yO c_69) fun r_73 =>
   eB ((eG m2_57 r_73 true).length<=274877906944) <|
   nx_66 (eG m2_57 r_73 true)) m (fun m2_57=>k)=bif decide (m.map (·.1)++l.map jF).Nodup then k else some z
 |[],i,m,_,hn,_=>by
  unfold forL
  rw[map_nil,append_nil,decide_eq_true hn];rfl
 |c::l,i,m,hlen,hn,ht=>by
  unfold forL;have hla:=yF m (jF c) true;simp only[length_cons]at hlen;dsimp only;rw[OJ,ze,ze,BZ]
  cases ha:zp m (jF c)with
  |some b =>
   have hb:=ht _ (J4 ha);simp only at hb;rw[hb];simp only[Option.getD_some,cond_true]
   rw[decide_eq_false];· rfl
   intro hd;have:=(nodup_append.1 hd).2.2 (jF c) (mem_keys.2 (by rw[ha];rfl)) (jF c) (by simp);exact this rfl
  |none =>
   rw[ha]at hla;simp only[Option.getD_none,cond_false];rw[zg (by rw[hla];simp;omega),O9 k z l _ _ (by rw[hla];simp;omega) (yL hn _ _) ?_]
   .rw[G3,ha]
    simp
   .intro p hp
    rcases nJ _ _ _ _ hp with hp|hp
    .rw[hp]
    .exact ht p hp
theorem wU(c:ae):(decide ((jF c).kind=1)&&(decide ((jF c).name=pH)||(bif decide ((jF c).kind=1)&&!decide ((jF c).name=pH)then fM (jF c).name else false)))=yw c:=by
 unfold jF yw
 cases decide (c.k=1)||decide (c.k=2)
 .cases decide (c.k=3)||decide (c.k=4) <;> rfl
 .simp only[cond_true,decide_true,Bool.true_and]
  cases decide (c.g.a=pH) <;> rfl
theorem PW{M:ai}(hM:Good M)(l:List ae)(hl:∀c∈l,mH c)(hn:l.length<=134217728):FO M l=some (ls M l):=by
 unfold FO ls;rw[Kz M hM.fit,ze,(xX M).2 hM,decide_eq_true rfl,Bool.not_true,cond_false,tG,ze];cases (fe M.b pH).isSome
 .simp only[cond_false,eH]
  rw[sq (fun c=>!yw c) (z:=(17:Int)) fun i c nx k=>?_]
  .cases hd:l.all fun c=>!yw c
   .rfl
   .simp only[cond_true,Bool.not_true,cond_false]
    have hg:=Hf hM;rw[LA hM,ze,MG hg l (fun c hc=>(hl c hc).sm) hn,ze];cases hs:decide ((fY l (iJ M)).2=0)
    .rfl
    .simp only[Bool.not_true,cond_false]
     cases h0:decide ((l.length:Int)=0)
     .simp only[cond_false]
      rw[O9 _ _ l 0 [] (by simp;omega) (by simp) (by simp)];simp only[map_nil,nil_append];rw[lO];exact g6 _ _ _
     .rfl
  .rw[OJ,ze,Kj,ii]
   rw[show decide ((jF c).name=([115,116,97,103,101]:eA))=decide ((jF c).name=pH)from rfl,wU,uH]
 .rfl
theorem xK{M:ai}(hM:Good M):Hy M=some (iJ M,0):=by
 unfold Hy;rw[Kz M hM.fit,ze,(xX M).2 hM,decide_eq_true rfl,Bool.not_true,cond_false,LA hM,ze]
theorem tV{M:ai}(hM:Good M):HE M=some (yu M,0):=by
 unfold HE;rw[Kz M hM.fit,ze,(xX M).2 hM,decide_eq_true rfl,Bool.not_true,cond_false,tF,ze]
theorem qb(M:ai):A4 (iJ M) M=some (!yu M):=by
 cases h:yu M
 .have hf:iJ M=M:=by
   unfold yu at h;unfold iJ;rw[MR fun f hf=>by simpa using (any_eq_false.1 h) f hf]
  rw[hf];exact kg M
 .have hlt:(iJ M).b.length<M.b.length:=by
   unfold yu at h;obtain⟨f,hf,hs⟩:=any_eq_true.1 h;exact length_filter_lt_length_iff_exists.2 ⟨f,hf,by simp[hs]⟩
  have he:zT (iJ M).b M.b=some false:=by
   unfold zT
   rw[decide_eq_false (by omega)];rfl
  unfold A4;rw[show zB (iJ M).m M.m=some true from LH _,ze,he];rfl
theorem pm(l:List ae)(h:pD l)(he:fb l=0):BT l=some (Dq (fG l)):=by
 rw[my l h.d (by have:=h.p;omega),Pg l h.c,ze,he,decide_eq_true rfl];rfl
theorem vQ(j:aj):(fG j.y).length<=(lp j).length/\(fG j.z).length<=(lp j).length:=by
 unfold lp kf iF mC;simp only[length_append,length_cons];omega
theorem vV{j:aj}(hn:gj j.v=true)(he:eJ j=0)(h:65536<(lp j).length):pJ j=([],4):=by
 unfold pJ;rw[hn,he,decide_eq_true rfl,decide_eq_true (show(65536:Int)<((lp j).length:Int)by omega)];rfl
theorem ua(j:aj)(h1:pD j.y)(h2:pD j.z)(e1:fb j.y=0)(e2:fb j.z=0):FP j=some (pJ j):=by
 have he:eJ j=0:=by unfold eJ;rw[e1];exact e2
 have hge:=vQ j;unfold FP;rw[CW,ze];cases hn:gj j.v
 .unfold pJ;rw[hn];rfl
 have hl:=Gu hn;have g1:=J2 ir _ (by decide) h1;have g2:=J2 ie _ (by decide) h2;have i1:=Bt h1.n;have i2:=Bt h2.n;have p1:=h1.p;have p2:=h2.p;simp only[Bool.not_true,cond_false];rw[zg (by simp;omega),zg (by simp;omega)]
 have big:∀l:List ae,pD l->fb l=0->decide (4194304<((fG l).length:Int))=true->BT l=some ([],4):=fun l h e b=>by
  rw[pm l h e];unfold Dq;rw[b];rfl
 have small:∀l:List ae,pD l->fb l=0->decide (4194304<((fG l).length:Int))=false->BT l=some (fG l,0):=fun l h e b=>by
  rw[pm l h e];unfold Dq;rw[b];rfl
 cases b1:decide (4194304<((fG j.y).length:Int))
 .cases b2:decide (4194304<((fG j.z).length:Int))
  .simp only[eH,forL,small _ h1 e1 b1,small _ h2 e2 b2,ze]
   simp only[decide_true,Bool.not_true,cond_false];rw[zg (by simp),CH _ h1.n,ze,zg (by simp;omega),zg (by simp;omega),zg (by simp;omega),zg (by simp;omega)];rw[zg (by simp),CH _ h2.n,ze,zg (by simp;omega),zg (by simp;omega),zg (by simp;omega),zg (by simp;omega)]
   have hb:((([106,111,117,114,110,97,108,32]:eA)++j.v)++([10]:eA))++(((([99,104,97,110,103,101,115]++[32])++Go.Lib.itoa (j.y.length:Int))++[10])++fG j.y)++(((([111,108,100]++[32])++Go.Lib.itoa (j.z.length:Int))++[10])++fG j.z)=iF j:=by
    simp[iF,mC,wJou,ir,ie]
   have hbl:(iF j).length<=40000000000:=by
    unfold iF;simp only[length_append,length_cons,show wJou.length=7 from rfl];omega
   have hs:=Fm (iF j)
   have hp:iF j++((([115,117,109,32]:eA)++gy (iF j))++([10]:eA))=lp j:=by
    simp[lp,kf,iW]
   unfold pJ;rw[hn,he,decide_eq_true (rfl:(0:Int)=0),Bool.not_true,cond_false,cond_false];rw[<-hb]at hp hs hbl;rw[PF,ze,zg (by simp only[length_append];rw[Fm];simp),zg (by simp only[length_append];rw[Fm];simp),zg (by simp only[length_append]at hbl|-;rw[Fm];simp only[length_cons,length_nil]at hbl|-;omega)];exact(g6 _ _ _).trans (congrArg (fun t:eA=>some (bif decide (65536<((t.length:Nat):Int))then(([]:eA),(4:Int))else(t,0))) hp)
  .have:=of_decide_eq_true b2
   rw[vV hn he (by omega)];simp only[eH,forL,small _ h1 e1 b1,big _ h2 e2 b2,ze];simp only[decide_true,Bool.not_true,cond_false];rw[zg (by simp),CH _ h1.n,ze,zg (by simp;omega),zg (by simp;omega),zg (by simp;omega),zg (by simp;omega)];rfl
 .have:=of_decide_eq_true b1
  rw[vV hn he (by omega)];simp only[eH,forL,big _ h1 e1 b1,ze];rfl
theorem qw(M:ai)(p:eA):yI M p=some (fe M.b p).isSome:=by
 unfold yI;rw[kQ,ze]
 cases fe M.b p <;> rfl
theorem Al(l:List ab)(p:eA):decide (p∈l.map (·.a))=(fe l p).isSome:=by
 rw[<-xx,Bool.eq_iff_iff,decide_eq_true_eq,any_eq_true,mem_map];simp only[decide_eq_true_eq]
theorem LD{Z:Type}(last:eA)(K:List ae->Option Z):∀(l:List ab) (i:Nat) (o:List ae),o.length+l.length<=100000 ->
  forL l i (fun i_83 f_85 o1_76 nx_82 k_81 =>
  call (BC f_85.a) fun r_86 =>
  bif (r_86&&(!decide (f_85.a=last)))then
   call (uW f_85.a) fun r_87 =>
   eB ((o1_76++[r_87]).length<=274877906944) <|
   nx_82 (o1_76++[r_87])
  else
  nx_82 o1_76) o K=K (o++((l.map (·.a)).filter fun k=>!decide (k=last)&&fM k).map gC)
 |[],i,o,_=>by unfold forL;simp
 |f::l,i,o,hn=>by
  unfold forL;simp only[length_cons]at hn;dsimp only;rw[Kj,ze,map_cons,filter_cons,Bool.and_comm];cases !decide (f.a=last)&&fM f.a
  .rw[cond_false,LD last K l (i+1) o (by omega)]
   rfl
  .rw[cond_true,show uW f.a=some (gC f.a)from rfl,ze,zg (by simp;omega),LD last K l (i+1) _ (by simp;omega)]
   simp
theorem nj{M:ai}(hM:Good M)(last:eA):FQ M last=some (M.m,M.b,M.i,M.h,um last M):=by
 have h2:=hM.c2;unfold FQ um;simp only[eH];rw[LD last _ M.b 0 [] (by simp;omega),qw,ze,Al,nil_append];have hfl:=length_filter_le (fun k=>!decide (k=last)&&fM k) (M.b.map (·.a));rw[length_map]at hfl;cases (fe M.b last).isSome
 .simp
 .rw[cond_true,show uW last=some (gC last)from rfl,ze,zg (by simp only[length_append,length_map,length_singleton];omega)]
  rfl
theorem ka:∀(l:List ae) (M:ai),(fY l M).2=0->fb l=0
 |[],_,_=>rfl
 |c::l,M,h=>by
  unfold fY at h
  by_cases h0:(fP c M).1=0
  .rw[decide_eq_true h0]at h
   have he:fD c=0:=by
    apply Classical.byContradiction;intro hc;rw[sT hc]at h0;exact hc h0
   have:=ka l _ h;unfold fb
   rw[he,this];rfl
  .rw[decide_eq_false h0]at h
   exact absurd h h0
theorem rG:∀{l:List ae},(∀c∈l,fD c=0)->fb l=0
 |[],_=>rfl
 |c::l,h=>by
  unfold fb
  rw[h c (mem_cons_self ..),rG fun d hd=>h d (mem_cons_of_mem _ hd)];rfl
theorem rW{M:ai}(hM:Good M)(id:eA)(l:List ae)(hl:∀c∈l,mH c)(hw:pD l):Fj M id l=some (JI M id l):=by
 have hn:=hw.n;have hcl:=kU hM wJrn;unfold Fj JI;rw[PW hM l hl (by omega),ze]
 by_cases h0:ls M l=0
 .rw[decide_eq_true h0,Bool.not_true,cond_false,cond_false,CW,ze]
  cases hid:gj id
  .rfl
  have hidl:=Gu hid;have hs:=O6 h0;have hgc:=Hf hM;have hg:=Kh l hgc hs;simp only[Bool.not_true,cond_false];rw[Ak hM,ze,show yI M ([115,116,97,103,101,47,100,111,110,101]:eA)=some (fe M.b wDone).isSome from qw M wDone,ii,show yI M ([115,116,97,103,101,47,98,97,99,107]:eA)=some (fe M.b j7).isSome from qw M j7,ii]
  have hb:∀a b c:Bool,((a||(bif !a then b else false))||(bif !(a||(bif !a then b else false))then c else false))=((b||c)||a):=by decide
  rw[hb]
  cases ((fe M.b wDone).isSome||(fe M.b j7).isSome)||decide ((jd M).2=2)
  .simp only[cond_false]
   rw[LA hM,ze,ue hgc l (fun c hc=>(hl c hc).sm) (by omega),hs,decide_eq_true rfl,Bool.not_true,cond_false,ze,decide_eq_true rfl,Bool.not_true,cond_false];rw[show FP ⟨id,l,pn (fY l (iJ M)).1 (iJ M)⟩=some (pJ ⟨id,l,ld M l⟩)from ua ⟨id,l,ld M l⟩ hw (oz hg hgc) (ka l _ hs) (rG fun c hc=>AL hg hgc hc),ze]
   by_cases hp:(pJ ⟨id,l,ld M l⟩).2=0
   .have hpl:=vU hp
    rw[decide_eq_true hp,Bool.not_true,cond_false,cond_false];rw[show FQ M ([115,116,97,103,101,47,106,111,117,114,110,97,108]:eA)=_ from nj hM wJrn,ze];rw[show Fe ([115,116,97,103,101,47,106,111,117,114,110,97,108]:eA) (pJ ⟨id,l,ld M l⟩).1=some (gh ⟨wJrn,(pJ ⟨id,l,ld M l⟩).1,false⟩)from rfl,ze];dsimp only;rw[zg (by simp only[length_append,length_singleton];omega),zg (by simp only[length_append,length_singleton];omega)]
    rw[show Fe ([115,116,97,103,101,47,100,111,110,101]:eA) id=some (gh ⟨wDone,id,false⟩)from rfl,ze,show uW ([115,116,97,103,101,47,106,111,117,114,110,97,108]:eA)=some (gC wJrn)from rfl,ze,
     show uW ([115,116,97,103,101,47,100,111,110,101]:eA)=some (gC wDone)from rfl,ze]
    rw[zg (by simp only[length_append,length_singleton,length_cons,length_nil];omega)]
    rw[show Bo M (((um wJrn M++[gh ⟨wJrn,(pJ ⟨id,l,ld M l⟩).1,false⟩])++l)++[gh ⟨wDone,id,false⟩,gC wJrn,gC wDone])=some (fY (qk M id l (pJ ⟨id,l,ld M l⟩).1) M)from
     MG hM _ (fun c hc=>(rf hM hidl hl hpl c hc).sm) (by simp only[length_append,length_singleton,length_cons,length_nil];omega),ze]
    exact g6 _ _ _
   .rw[decide_eq_false hp];rfl
  .rfl
 .rw[decide_eq_false h0];rfl
theorem p9(M:ai)(l:List ae)(hl:∀c∈l,mH c)(hw:∀c∈l,(uj c).length<=300000000/\uE c):pD (Ba M l):=by
 have h12:=sB M l
 have hp:∀(L:List ae),(∀c∈L,(uj c).length<=300000000)->(fG L).length<=300000001*L.length:=by
  intro L
  induction L with
  |nil=>intro _;simp[fG]
  |cons c L ih =>
   intro h;have h1:=h c (mem_cons_self ..)
   have h2:=ih fun d hd=>h d (mem_cons_of_mem _ hd)
   rw[Fv];simp only[length_append,length_cons,length_nil];omega
 have:=hp (Ba M l) fun c hc=>(hw c (Kf c hc)).1
 exact⟨fun c hc=>(hl c (Kf c hc)).sm,fun c hc=>(hw c (Kf c hc)).2,by omega,by omega⟩
theorem DW(m:ai)(id:eA)(l:List ae)(all:Bool)(hm:EG m)(hl:∀c∈l,mH c)(hw:∀c∈l,(uj c).length<=300000000/\uE c)(hs:pD l):KG m id l all=some true:=by
 have hn:=hs.n;unfold KG;rw[tg,ze,Bool.not_true,cond_false];obtain⟨M,hM,hF⟩:=wz m hm;have hg:=hF.good;rw[hM,ze]
 obtain⟨L,eL,hLx,hLw⟩:∃L,CK M l all=some L/\(∀c∈L,mH c)/\pD L:=by
  cases all with
  |true=>exact⟨l,pM M l,hl,hs⟩
  |false=>exact⟨Ba M l,sC hg l hl (by omega),fun c hc=>hl c (Kf c hc),p9 M l hl hw⟩
 have hLn:=hLw.n;rw[eL,ze,M1 hg L hLx (by omega),ze,PW hg L hLx (by omega),ze,decide_eq_true rfl,Bool.not_true,cond_false];rw[xK hg,ze,tV hg,ze];simp only[decide_true,Bool.not_true,Bool.or_self,Bool.not_false,G8];rw[MH hg,ze,kg,ze];simp only[Bool.not_true,Bool.or_self,Bool.not_false,G8];rw[qb,ze,BZ]
 have hb:(false||decide (yu M=!yu M))=false:=by cases yu M <;> rfl
 rw[hb,cond_false,rW hg id L hLx hLw,ze,ph hg id L hLx hLw,ze];unfold Kx;rw[rW hg id L hLx hLw,ze,ze];simp only[decide_true,Bool.and_self,G8];rw[y6,ze,BZ];rfl
end Go.Md

