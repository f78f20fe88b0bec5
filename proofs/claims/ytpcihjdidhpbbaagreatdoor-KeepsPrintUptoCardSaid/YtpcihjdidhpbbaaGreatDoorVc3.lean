/- An abstract machine for the model: what it computes on, its operations, the walk of a body, and that all of it is true of the model (part 3). -/
import Derived.Test.YtpcihjdidhpbbaaGreatDoorVc2
import Derived.Lib.Bytealg
import Derived.Lib.SliceRun
import Derived.Shelf.SlIter.Nil
import Derived.Shelf.SlSortCmp.Insertion
import Derived.Shelf.SlSortCmp.NoneTotal
import Derived.Shelf.SortM.Plain
import Derived.Shelf.SortM.SortNone
import Derived.Shelf.Strings.Builder1
import Derived.Shelf.Strings.Replace
import Derived.Shelf.Strings.SlTrimAscii
set_option linter.unusedSectionVars false
set_option linter.unusedVariables false
open List
namespace Go.Vc
variable [Tabs]
def nk:List Nat->Nat->Option Nat
 |[],_=>none
 |i::ids,o=>if i=o then some 0 else match nk ids o with
  |some j=>some (j+1)
  |none=>none
def iE:List Nat->Nat->Nat->Nat
 |[],base,j=>base+j
 |i::_,_,0=>i
 |_::ids,base,j+1=>iE ids base j
mutual
def fD(b:List Nat):Va->Option Va
 |.ptr o a=>match nk b o with
  |some j=>some (.ptr j a)
  |none=>none
 |.cs o a=>match nk b o with
  |some j=>some (.cs j a)
  |none=>none
 |.el o s i a=>match nk b o with
  |some j=>some (.el j s i a)
  |none=>none
 |.buf o=>match nk b o with
  |some j=>some (.buf j)
  |none=>none
 |.mp o=>match nk b o with
  |some j=>some (.mp j)
  |none=>none
 |.np o=>match nk b o with
  |some j=>some (.np j)
  |none=>none
 |.sd o=>match nk b o with
  |some j=>some (.sd j)
  |none=>none
 |.vw o s a n=>match nk b o with
  |some j=>some (.vw j s a n)
  |none=>none
 |.bufc o s=>match nk b o with
  |some j=>some (.bufc j s)
  |none=>none
 |.nv o i=>match nk b o with
  |some j=>some (.nv j i)
  |none=>none
 |.ne o s i e a=>match nk b o with
  |some j=>some (.ne j s i e a)
  |none=>none
 |.fn f c=>match ip b c with
  |some d=>some (.fn f d)
  |none=>none
 |.agg c=>match ip b c with
  |some d=>some (.agg d)
  |none=>none
 |.tup c=>match ip b c with
  |some d=>some (.tup d)
  |none=>none
 |.cnd _ _=>none
 |v=>some v
def ip(a:List Nat):List Va->Option (List Va)
 |[]=>some []
 |v::b=>match fD a v,ip a b with
  |some u,some c=>some (u::c)
  |_,_=>none
end
mutual
def gX(a:List Nat):Va->Option Va
 |.nils=>some (.p (.l []))
 |.full r=>some (.p (.l r))
 |.agg b=>match jC a b with
  |some c=>some (.agg c)
  |none=>none
 |v=>fD a v
def jC(a:List Nat):List Va->Option (List Va)
 |[]=>some []
 |v::b=>match gX a v,jC a b with
  |some u,some c=>some (u::c)
  |_,_=>none
end
def k8(a:List Nat):Ob->Option Ob
 |.cells T c=>match ip a c with
  |some d=>some (.cells T d)
  |none=>none
 |.it _ _ _=>none
 |.nst f T e k p b g=>match nk a p with
  |some j=>some (.nst f T e k j b g)
  |none=>none
 |x=>some x
def iI(a:List Nat)(H:List Ob):List Nat->Option (List Ob)
 |[]=>some []
 |i::is=>match k8 a (eD H i),iI a H is with
  |some x,some X=>some (x::X)
  |_,_=>none
mutual
def fa(c:List Nat)(b:Nat):Va->Va
 |.ptr o a=>.ptr (iE c b o) a
 |.cs o a=>.cs (iE c b o) a
 |.el o s i a=>.el (iE c b o) s i a
 |.buf o=>.buf (iE c b o)
 |.mp o=>.mp (iE c b o)
 |.np o=>.np (iE c b o)
 |.sd o=>.sd (iE c b o)
 |.vw o s a n=>.vw (iE c b o) s a n
 |.bufc o s=>.bufc (iE c b o) s
 |.nv o i=>.nv (iE c b o) i
 |.ne o s i j a=>.ne (iE c b o) s i j a
 |.fn f d=>.fn f (i4 c b d)
 |.agg d=>.agg (i4 c b d)
 |.tup d=>.tup (i4 c b d)
 |.cnd _ _=>.top
 |v=>v
def i4(b:List Nat)(a:Nat):List Va->List Va
 |[]=>[]
 |v::c=>fa b a v::i4 b a c
end
def Bg(b:List Nat)(a:Nat):Ob->Ob
 |.cells T d=>.cells T (i4 b a d)
 |.it _ _ _=>.gone
 |.nst f T e k p c g=>.nst f T e k (iE b a p) c g
 |x=>x
def gi(b:List Nat)(a:Nat):List Ob->List Ob
 |[]=>[]
 |x::X=>Bg b a x::gi b a X
def fy{α:Type}:List α->List Nat->List α->List α
 |H,i::ids,x::X=>fy (H.set i x) ids X
 |H,[],X=>H++X
 |H,_::_,[]=>H
def jc(m:Nat):List Nat->Bool
 |[]=>true
 |i::ids=>decide (i<m)&&!(ids.contains i)&&jc m ids
def fH(a:List Nat)(H:List Ob)(o:Nat):Bool:=!(a.contains o&&!(eD H o).kept)
theorem ij:∀{a:List Nat} {o j:Nat},nk a o=some j->a[j]?=some o
 |[],_,_,h=>by simp[nk]at h
 |i::a,o,j,h=>by
  simp only[nk]at h;split at h
  .cases h;rename_i e;simp[e]
  .split at h
   .rename_i c b;cases h;simpa using ij b
   .cases h
theorem Ng{m:Nat}:∀{a:List Nat},jc m a=true->a.Nodup/\∀i∈a,i<m
 |[],_=>by simp
 |i::a,h=>by
  simp only[jc,Bool.and_eq_true,decide_eq_true_eq,Bool.not_eq_true',contains_eq_mem,decide_eq_false_iff_not]at h;obtain⟨c,d⟩:=Ng h.2;refine⟨nodup_cons.2 ⟨h.1.2,c⟩,fun j b=>?_⟩;rcases mem_cons.1 b with rfl|b
  .exact h.1.1
  .exact d j b
theorem qL:∀{b:List Nat} {a j i:Nat},b[j]?=some i->iE b a j=i
 |[],_,_,_,h=>by simp at h
 |i::b,a,0,k,h=>by simp at h;simp[iE,h]
 |i::b,a,j+1,k,h=>by simp only[iE];exact qL (by simpa using h)
theorem xt:∀{b:List Nat} {a j:Nat},b.length<=j->iE b a j=a+(j-b.length)
 |[],_,_,_=>by simp[iE]
 |i::b,a,0,h=>by simp at h
 |i::b,a,j+1,h=>by simp only[iE,length_cons];rw[xt (by simpa using h)];omega
theorem Gr{α:Type}:∀{a:List Nat} {H X:List α},a.length<=X.length->(fy H a X).length=H.length+(X.length-a.length)
 |[],H,X,_=>by simp[fy]
 |i::a,H,x::X,h=>by simp only[fy];rw[Gr (by simpa using h)];simp
 |i::a,H,[],h=>by simp at h
theorem F8{α:Type}:∀{ids:List Nat} {H X:List α} {o:Nat},o∉ids->o<H.length->(fy H ids X)[o]?=H[o]?
 |[],H,X,o,_,h=>by simp only[fy];rw[getElem?_append_left h]
 |i::ids,H,x::X,o,a,h=>by
  simp only[fy];rw[F8 (fun h=>a (by simp[h])) (by simpa using h),getElem?_set_ne (fun e=>a (by simp[e]))]
 |i::ids,H,[],o,_,_=>rfl
theorem F7{α:Type}:∀{ids:List Nat} {H X:List α} {j i:Nat},ids.Nodup->(∀i∈ids,i<H.length)->ids.length<=X.length->ids[j]?=some i->(fy H ids X)[i]?=X[j]?
 |[],_,_,_,_,_,_,_,h=>by simp at h
 |i::ids,H,[],_,_,_,_,b,_=>by simp at b
 |i::ids,H,x::X,0,k,c,a,_,h=>by
  simp at h;subst h;simp only[fy];rw[F8 (nodup_cons.1 c).1 (by simpa using a i (by simp)),getElem?_set_self (a i (by simp))];rfl
 |i::ids,H,x::X,j+1,k,c,a,b,h=>by simp only[fy];rw[F7 (nodup_cons.1 c).2 (fun q d=>by simpa using a q (by simp[d])) (by simpa using b) (by simpa using h)];rfl
theorem OK{α:Type}:∀{ids:List Nat} {H X:List α} {j:Nat},ids.length<=j->(fy H ids X)[H.length+(j-ids.length)]?=X[j]?
 |[],H,X,j,_=>by simp only[fy];rw[getElem?_append_right (by omega)];simp
 |i::ids,H,[],j,_=>by simp only[fy];rw[getElem?_eq_none (by omega)];rfl
 |i::ids,H,x::X,0,h=>by simp at h
 |i::ids,H,x::X,j+1,h=>by
  simp only[fy];have:=OK (H:=H.set i x) (X:=X) (ids:=ids) (j:=j) (by simpa using h);rw[length_set]at this;simpa using this
theorem Po{α:Type}{ids:List Nat}{H X:List α}{o:Nat}{y:α}(e:ids.Nodup)(a:∀i∈ids,i<H.length)(f:ids.length<=X.length)(h:(fy H ids X)[o]?=some y) :
  (∃j:Nat,ids[j]?=some o/\X[j]?=some y)∨(o∉ids/\o<H.length/\H[o]?=some y)∨(∃j:Nat,ids.length<=j/\o=H.length+(j-ids.length)/\X[j]?=some y):=by
 by_cases b:o∈ids
 .obtain⟨j,d⟩:=getElem?_of_mem b;exact .inl ⟨j,d,by rw[<-F7 e a f d];exact h⟩
 .rcases Nat.lt_or_ge o H.length with c|c
  .exact .inr (.inl ⟨b,c,by rw[<-F8 b c];exact h⟩)
  .refine .inr (.inr ⟨o-H.length+ids.length,by omega,by omega,?_⟩);rw[<-OK (H:=H) (X:=X) (j:=o-H.length+ids.length) (ids:=ids) (by omega)];rw[show H.length+(o-H.length+ids.length-ids.length)=o by omega];exact h
section
variable {K:Nat->Prop} {h:Array Obj} {G G1:List Gh} {ids:List Nat} {base:Nat}
mutual
theorem jt(r:∀(j o:Nat),ids[j]?=some o->G1[j]?=G[o]?):∀{c:Value} {v u:Va},fD ids v=some u->VR K h G c v->VR K h G1 c u
 |c,.p x,u,d,e=>by simp only[fD]at d;cases d;simpa only[VR]using e
 |c,.nils,u,d,e=>by simp only[fD]at d;cases d;simpa only[VR]using e
 |c,.full w,u,d,e=>by simp only[fD]at d;cases d;simpa only[VR]using e
 |c,.rp A,u,d,e=>by simp only[fD]at d;cases d;simpa only[VR]using e
 |c,.nil,u,d,e=>by simp only[fD]at d;cases d;simpa only[VR]using e
 |c,.raw v,u,d,e=>by simp only[fD]at d;cases d;simpa only[VR]using e
 |c,.er v,u,d,e=>by simp only[fD]at d;cases d;simpa only[VR]using e
 |c,.top,u,d,e=>by simp only[fD]at d;cases d;simp[VR]
 |c,.ptr o a,u,d,e=>by
  simp only[fD]at d;split at d
  .rename_i j q;cases d;simp only[VR]at *;obtain⟨g,b,k,l⟩:=e;exact⟨g,b,by rw[r j o (ij q)];exact k,l⟩
  .cases d
 |c,.cs o a,u,d,e=>by
  simp only[fD]at d;split at d
  .rename_i j q;cases d;simp only[VR]at *;obtain⟨g,b,k,l⟩:=e;exact⟨g,b,by rw[r j o (ij q)];exact k,l⟩
  .cases d
 |c,.el o s i a,u,d,e=>by
  simp only[fD]at d;split at d
  .rename_i j q;cases d;simp only[VR]at *;obtain⟨g,b,n,m,k,l⟩:=e;exact⟨g,b,n,m,by rw[r j o (ij q)];exact k,l⟩
  .cases d
 |c,.buf o,u,d,e=>by
  simp only[fD]at d;split at d
  .rename_i j q;cases d;simp only[VR]at *;obtain⟨g,k,l⟩:=e;exact⟨g,by rw[r j o (ij q)];exact k,l⟩
  .cases d
 |c,.mp o,u,d,e=>by
  simp only[fD]at d;split at d
  .rename_i j q;cases d;simp only[VR]at *;obtain⟨g,b,k,l⟩:=e;exact⟨g,b,by rw[r j o (ij q)];exact k,l⟩
  .cases d
 |c,.np o,u,d,e=>by
  simp only[fD]at d;split at d
  .rename_i j q;cases d;simp only[VR]at *;rcases e with e|⟨g,b,k,l⟩
   .exact .inl e
   .exact .inr ⟨g,b,by rw[r j o (ij q)];exact k,l⟩
  .cases d
 |c,.sd o,u,d,e=>by
  simp only[fD]at d;split at d
  .rename_i j q;cases d;simp only[VR]at *;obtain⟨g,a,n,m,k,l⟩:=e;exact⟨g,a,n,m,by rw[r j o (ij q)];exact k,l⟩
  .cases d
 |c,.vw o _ _ _,u,d,e=>by
  simp only[fD]at d;split at d
  .rename_i j q;cases d;simp only[VR]at *;obtain⟨g,a,n,m,k,l⟩:=e;exact⟨g,a,n,m,by rw[r j o (ij q)];exact k,l⟩
  .cases d
 |c,.bufc o _,u,d,e=>by
  simp only[fD]at d;split at d
  .rename_i j q;cases d;simp only[VR]at *;obtain⟨g,a,n,m,k,l⟩:=e;exact⟨g,a,n,m,by rw[r j o (ij q)];exact k,l⟩
  .cases d
 |c,.nv o _,u,d,e=>by
  simp only[fD]at d;split at d
  .rename_i j q;cases d;simp only[VR]at *;obtain⟨g,a,n,m,k,l⟩:=e;exact⟨g,a,n,m,by rw[r j o (ij q)];exact k,l⟩
  .cases d
 |c,.ne o _ _ _ _,u,d,e=>by
  simp only[fD]at d;split at d
  .rename_i j q;cases d;simp only[VR]at *;obtain⟨g,b,n,m,k,l⟩:=e;exact⟨g,b,n,m,by rw[r j o (ij q)];exact k,l⟩
  .cases d
 |c,.fn f y,u,d,e=>by
  simp only[fD]at d;split at d
  .rename_i z t;cases d;simp only[VR]at *;obtain⟨cs,k,l⟩:=e;exact⟨cs,k,Hk r t l⟩
  .cases d
 |c,.agg y,u,d,e=>by
  simp only[fD]at d;split at d
  .rename_i z t;cases d;simp only[VR]at *;obtain⟨cs,k,l⟩:=e;exact⟨cs,k,Hk r t l⟩
  .cases d
 |c,.tup y,u,d,e=>by
  simp only[fD]at d;split at d
  .rename_i z t;cases d;simp only[VR]at *;obtain⟨cs,k,l⟩:=e;exact⟨cs,k,Hk r t l⟩
  .cases d
 |c,.cnd _ _,u,d,_=>by simp[fD]at d
theorem Hk(g:∀(j o:Nat),ids[j]?=some o->G1[j]?=G[o]?):∀{cs:List Value} {d b:List Va},ip ids d=some b->VRs K h G cs d->VRs K h G1 cs b
 |cs,[],b,a,e=>by simp only[ip]at a;cases a;simpa only[VRs]using e
 |cs,v::d,b,a,e=>by
  simp only[ip]at a;split at a
  .rename_i u i k l;cases a;simp only[VRs]at *;obtain⟨c,f,m,n,p⟩:=e;exact⟨c,f,m,jt g k n,Hk g l p⟩
  .cases a
end
mutual
theorem xq(m:∀(j:Nat) (g:Gh),G1[j]?=some g->G[iE ids base j]?=some g):∀{c:Value} {v:Va},VR K h G1 c v->VR K h G c (fa ids base v)
 |c,.p x,d=>by simpa only[fa,VR]using d
 |c,.nils,d=>by simpa only[fa,VR]using d
 |c,.full q,d=>by simpa only[fa,VR]using d
 |c,.rp t,d=>by simpa only[fa,VR]using d
 |c,.nil,d=>by simpa only[fa,VR]using d
 |c,.raw v,d=>by simpa only[fa,VR]using d
 |c,.er v,d=>by simpa only[fa,VR]using d
 |c,.top,_=>by simp[fa,VR]
 |c,.ptr o a,d=>by simp only[fa,VR]at *;obtain⟨g,b,e,k⟩:=d;exact⟨g,b,m o g e,k⟩
 |c,.cs o a,d=>by simp only[fa,VR]at *;obtain⟨g,b,e,k⟩:=d;exact⟨g,b,m o g e,k⟩
 |c,.el o s i a,d=>by simp only[fa,VR]at *;obtain⟨g,b,n,l,e,k⟩:=d;exact⟨g,b,n,l,m o g e,k⟩
 |c,.buf o,d=>by simp only[fa,VR]at *;obtain⟨g,e,k⟩:=d;exact⟨g,m o g e,k⟩
 |c,.mp o,d=>by simp only[fa,VR]at *;obtain⟨g,b,e,k⟩:=d;exact⟨g,b,m o g e,k⟩
 |c,.np o,d=>by
  simp only[fa,VR]at *;rcases d with d|⟨g,b,e,k⟩
  .exact .inl d
  .exact .inr ⟨g,b,m o g e,k⟩
 |c,.sd o,d=>by simp only[fa,VR]at *;obtain⟨g,a,n,l,e,k⟩:=d;exact⟨g,a,n,l,m o g e,k⟩
 |c,.vw o _ _ _,d=>by simp only[fa,VR]at *;obtain⟨g,a,n,l,e,k⟩:=d;exact⟨g,a,n,l,m o g e,k⟩
 |c,.bufc o _,d=>by simp only[fa,VR]at *;obtain⟨g,a,n,l,e,k⟩:=d;exact⟨g,a,n,l,m o g e,k⟩
 |c,.nv o _,d=>by simp only[fa,VR]at *;obtain⟨g,a,n,l,e,k⟩:=d;exact⟨g,a,n,l,m o g e,k⟩
 |c,.ne o _ _ _ _,d=>by simp only[fa,VR]at *;obtain⟨g,b,n,l,e,k⟩:=d;exact⟨g,b,n,l,m o g e,k⟩
 |c,.fn f r,d=>by simp only[fa,VR]at *;obtain⟨cs,e,k⟩:=d;exact⟨cs,e,Hh m k⟩
 |c,.agg r,d=>by simp only[fa,VR]at *;obtain⟨cs,e,k⟩:=d;exact⟨cs,e,Hh m k⟩
 |c,.tup r,d=>by simp only[fa,VR]at *;obtain⟨cs,e,k⟩:=d;exact⟨cs,e,Hh m k⟩
 |c,.cnd _ _,_=>by simp[fa,VR]
theorem Hh(e:∀(j:Nat) (g:Gh),G1[j]?=some g->G[iE ids base j]?=some g):∀{cs:List Value} {a:List Va},VRs K h G1 cs a->VRs K h G cs (i4 ids base a)
 |cs,[],b=>by simpa only[i4,VRs]using b
 |cs,v::a,b=>by simp only[i4,VRs]at *;obtain⟨c,d,f,i,k⟩:=b;exact⟨c,d,f,xq e i,Hh e k⟩
end
mutual
theorem vF(d:∀(j o:Nat),ids[j]?=some o->G1[j]?=G[o]?):∀{c:Value} {v u:Va},gX ids v=some u->VR K h G c v->VR K h G1 c u
 |c,.nils,u,a,b=>by simp only[gX]at a;cases a;simp only[VR,DR]at *;exact .inl ⟨⟨none,b⟩,trivial⟩
 |c,.full r,u,a,b=>by simp only[gX]at a;cases a;simp only[VR]at *;exact b.1
 |c,.agg i,u,a,b=>by
  simp only[gX]at a;split at a
  .rename_i k e;cases a;simp only[VR]at *;obtain⟨cs,f,g⟩:=b;exact⟨cs,f,k9 d e g⟩
  .cases a
 |c,.p _,u,a,b=>by unfold gX at a;exact jt d a b
 |c,.rp _,u,a,b=>by unfold gX at a;exact jt d a b
 |c,.ptr _ _,u,a,b=>by unfold gX at a;exact jt d a b
 |c,.cs _ _,u,a,b=>by unfold gX at a;exact jt d a b
 |c,.el _ _ _ _,u,a,b=>by unfold gX at a;exact jt d a b
 |c,.buf _,u,a,b=>by unfold gX at a;exact jt d a b
 |c,.mp _,u,a,b=>by unfold gX at a;exact jt d a b
 |c,.np _,u,a,b=>by unfold gX at a;exact jt d a b
 |c,.sd _,u,a,b=>by unfold gX at a;exact jt d a b
 |c,.bufc _ _,u,a,b=>by unfold gX at a;exact jt d a b
 |c,.nv _ _,u,a,b=>by unfold gX at a;exact jt d a b
 |c,.ne _ _ _ _ _,u,a,b=>by unfold gX at a;exact jt d a b
 |c,.vw _ _ _ _,u,a,b=>by unfold gX at a;exact jt d a b
 |c,.fn _ _,u,a,b=>by unfold gX at a;exact jt d a b
 |c,.tup _,u,a,b=>by unfold gX at a;exact jt d a b
 |c,.nil,u,a,b=>by unfold gX at a;exact jt d a b
 |c,.cnd _ _,u,a,b=>by unfold gX at a;exact jt d a b
 |c,.raw _,u,a,b=>by unfold gX at a;exact jt d a b
 |c,.er _,u,a,b=>by unfold gX at a;exact jt d a b
 |c,.top,u,a,b=>by unfold gX at a;exact jt d a b
theorem k9(g:∀(j o:Nat),ids[j]?=some o->G1[j]?=G[o]?):∀{cs:List Value} {d b:List Va},jC ids d=some b->VRs K h G cs d->VRs K h G1 cs b
 |cs,[],b,a,e=>by simp only[jC]at a;cases a;simpa only[VRs]using e
 |cs,v::d,b,a,e=>by
  simp only[jC]at a;split at a
  .rename_i u i k l;cases a;simp only[VRs]at *;obtain⟨c,f,m,n,p⟩:=e;exact⟨c,f,m,vF g k n,k9 g l p⟩
  .cases a
end
theorem Eb(l:∀(j o:Nat),ids[j]?=some o->G1[j]?=G[o]?){g:Gh}{x y:Ob}(a:k8 ids x=some y)(c:ObR K h G g x):ObR K h G1 g y:=by
 cases x with
 |cells T m =>
  simp only[k8]at a;split at a
  .rename_i u q;cases a;obtain⟨b,cs,d,e,i⟩:=c;exact⟨b,cs,d,e,Hk l q i⟩
  .cases a
 |it _ _ _=>simp[k8]at a
 |nst f T v k p n w =>
  simp only[k8]at a;split at a
  .rename_i j r;cases a;obtain⟨s,d,t,m,e,i⟩:=c;exact⟨s,d,t,m,by rw[l j p (ij r)];exact e,i⟩
  .cases a
 |_=>simp only[k8]at a;cases a;exact c
theorem nj{x y:Ob}(a:k8 ids x=some y):y.kept=x.kept:=by
 cases x with
 |cells T c =>
  simp only[k8]at a;split at a
  .cases a;rfl
  .cases a
 |it _ _ _=>simp[k8]at a
 |nst f T d k p b e =>
  simp only[k8]at a;split at a
  .cases a;rfl
  .cases a
 |_=>simp only[k8]at a;cases a;rfl
theorem FA(i:∀(j:Nat) (g:Gh),G1[j]?=some g->G[iE ids base j]?=some g){g:Gh}{x:Ob}(a:ObR K h G1 g x):ObR K h G g (Bg ids base x):=by
 cases x with
 |cells T l =>
  obtain⟨b,cs,c,d,e⟩:=a;exact⟨b,cs,c,d,Hh i e⟩
 |it _ _ _=>trivial
 |nst f T q k p m r =>
  obtain⟨o,c,n,l,d,e⟩:=a;exact⟨o,c,n,l,i p n d,e⟩
 |_=>exact a
end
theorem xr(b:List Nat)(a:Nat)(x:Ob):(Bg b a x).kept=x.kept:=by cases x <;> rfl
theorem Hz(b:List Nat)(a:Nat):∀(X:List Ob) (j:Nat),(gi b a X)[j]?=(X[j]?).map (Bg b a)
 |[],j=>by simp[gi]
 |x::X,0=>by simp[gi]
 |x::X,j+1=>by simp only[gi,getElem?_cons_succ];exact Hz b a X j
theorem uQ(b:List Nat)(a:Nat):∀X:List Ob,(gi b a X).length=X.length
 |[]=>rfl
 |x::X=>by simp[gi,uQ b a X]
theorem MO{a:List Nat}{H:List Ob}:∀{is:List Nat} {X:List Ob},iI a H is=some X->X.length=is.length/\∀(j i:Nat),is[j]?=some i->∃x,X[j]?=some x/\k8 a (eD H i)=some x
 |[],X,h=>by simp only[iI]at h;cases h;simp
 |i::is,X,h=>by
  simp only[iI]at h;split at h
  .rename_i x g c d;cases h;obtain⟨e,f⟩:=MO d;refine⟨by simp[e],fun j k b=>?_⟩;cases j with
   |zero=>simp at b;subst b;exact⟨x,rfl,c⟩
   |succ j=>simpa using f j k (by simpa using b)
  .cases h
theorem G5:∀{H:List Ob} {o:Nat} {x:Ob},H[o]?=some x->eD H o=x
 |[],_,_,h=>by simp at h
 |y::H,0,x,h=>by simp at h;simp[eD,h]
 |y::H,o+1,x,h=>by simp only[eD];exact G5 (by simpa using h)
theorem nQ{X:List Ob}{o:Nat}{x:Ob}(h:X[o]?=some x)(a:x.kept=true):eI (kinds X) o=true:=by
 induction X generalizing o with
 |nil=>simp at h
 |cons y X b =>
  cases o with
  |zero=>simp at h;subst h;simp[kinds,eI,a]
  |succ o=>simp only[kinds,eI];exact b (by simpa using h)
section
variable {P:Program} {kl:List Bool} {n:Nat} {B:Bs} {K:ey->List Ob->Prop} {E:ey} {H:List Ob} {ops:Array Oper}
theorem kB{o:Oper}{c:Call}{fop:Operand}{f:FuncId}{caps args:List Va}{X:List Ob}{Post:Va->List Ob->Prop}(d:List Nat)(hs:Does P f args X Post)(e1:o.op=.call c)(e3:c.callee=.value fop)(hk:opOk true E fop/\allOk true E c.args.toList)(e4:opnd E fop=.fn f caps)
  (hp:∀{K:Nat->Prop} {h:Array Obj} {G I:List Gh} {cs:List Value},(∀(j o:Nat),d[j]?=some o->I[j]?=G[o]?)->VRs K h G cs (opnds E c.args.toList++caps)->VRs K h I cs args) (hXs:iI d H d=some X) (hids:jc H.length d=true) {a:Act} {w:World} {Q:Exit->Act->World->Prop} {K':Act->World->Prop} (hR:Rel (cx P kl n B) E H a w)
  (hK':∀c' r X' w',Post r X'->r.ok->RelV (cx P kl n B) (fZ (fH d H) E) (fy (fF (fH d H) H) d (gi d H.length X')) c' (fa d H.length r) a w'->K' (a.put o.dst c') w'):o.wp P a w K' Q:=by
 obtain⟨Kk,G,hX,D,hE,hdf,hn,hkp⟩:=hR;have hvf:=zG hE rfl fop hk.1;rw[e4]at hvf;simp only[VR]at hvf;obtain⟨cs,hcs,hcv⟩:=hvf;have hargs:=x9 hE rfl c.args.toList hk.2;obtain⟨O,hlt⟩:=Ng hids;obtain⟨hXl,hXg⟩:=MO hXs
 -- the ghosts that are handed over
 have Y:∀i∈d,i<G.length:=fun i hi=>by rw[D.len];exact hlt i hi
 obtain⟨Gs,R,hGs⟩:∃Gs:List Gh,Gs.length=d.length/\∀(j i:Nat),d[j]?=some i->Gs[j]?=G[i]?:=by refine⟨d.map fun i=>G.getD i ⟨none,undef,[]⟩,by simp,fun j i v=>?_⟩;have:=Y i (mem_of_getElem? v);simp[v,getElem?_eq_getElem this]
 have J:∀{j:Nat} {g:Gh},Gs[j]?=some g->∃i,d[j]?=some i/\G[i]?=some g:=by intro j g q;have v:=(List.getElem?_eq_some_iff.1 q).1;rw[R]at v;exact⟨d[j],getElem?_eq_getElem v,by rw[<-hGs j _ (getElem?_eq_getElem v)];exact q⟩
 have hSs:St Kk Gs X w:=by
  refine⟨by rw[R,hXl],D.kb,fun j g b q hb=>?_,fun j j' g T b q Z hb s=>?_,fun j g x q hx=>?_,D.tb⟩
  .obtain⟨i,_,hi⟩:=J q;exact D.gbo i g b hi hb
  .obtain⟨i,z,hi⟩:=J q;obtain⟨i',hij',hi'⟩:=J Z;obtain rfl:=D.ijo i i' g T b hi hi' hb s;exact(getElem?_inj (List.getElem?_eq_some_iff.1 z).1 O).1 (z.trans hij'.symm)
  .obtain⟨i,z,hi⟩:=J q;obtain⟨x',hx',L⟩:=hXg j i z;rw[hx]at hx';cases hx';have hil:=hlt i (mem_of_getElem? z)
   have hoi:H[i]?=some (eD H i)∨eD H i=.gone:=by
    rcases Classical.em (eD H i=.gone)with e|e
    .exact .inr e
    .exact .inl (zu rfl e)
   rcases hoi with hoi|hoi
   .exact Eb (fun j o h=>hGs j o h) L (D.ob i g _ hi hoi)
   .rw[hoi]at L;simp only[k8]at L;cases L;trivial
 have hall:=hp (fun j o h=>hGs j o h) (hargs.append hcv);unfold Oper.wp;rw[Gb e1 e3 hcs hs.1];simp only[Oper.upon];refine(hs.2 Kk Gs w _ hSs hall).mono ?_;rintro e w' ⟨c',r,X',K1,I,rfl,hpost,t,A,hv,hkp1⟩;have F:d.length<=I.length:=by rw[<-R];exact t.glen
 have hXl1:d.length<=X'.length:=by rw[<-A.len];exact F
 let G2:=fy G d I
 -- how the ghosts lie in the new list
 have g2new:∀(j:Nat) (g:Gh),I[j]?=some g->G2[iE d H.length j]?=some g:=by
  intro j g q;rcases Nat.lt_or_ge j d.length with h|h
  .rw[qL (getElem?_eq_getElem h)];show(fy G d I)[_]?=_;rw[F7 O Y F (getElem?_eq_getElem h)];exact q
  .rw[xt h,<-D.len];show(fy G d I)[_]?=_;rw[OK h];exact q
 have l:∀{o:Nat} {g:Gh},G2[o]?=some g->(∃j:Nat,d[j]?=some o/\I[j]?=some g)∨(o∉d/\o<G.length/\G[o]?=some g)∨(∃j:Nat,d.length<=j/\o=G.length+(j-d.length)/\I[j]?=some g):=fun h=>Po O Y F h;have old:∀{j:Nat} {g:Gh} {b:Nat},I[j]?=some g->own g b->(∃(i:Nat) (M:Gh),i∈d/\G[i]?=some M/\own M b)∨w.heap.size<=b:=by
  intro j g b q hb;rcases t.gown j g b q hb with⟨j0,M,h1,S⟩|h
  .obtain⟨i,z,hi⟩:=J h1;exact .inl ⟨i,M,mem_of_getElem? z,hi,S⟩
  .exact .inr h
 have fr:∀b,b<w.heap.size->(∀(o:Nat) (g:Gh),o∈d->G[o]?=some g->¬ own g b)->w'.heap[b]?=w.heap[b]?:=fun b hb hn=>t.frame b hb fun j g q=>by obtain⟨i,z,hi⟩:=J q;exact hn i g (mem_of_getElem? z) hi
 have hMk:Mn Kk K1 w.heap w'.heap:=⟨t.k,fun b hb=>fr b (D.kb b hb) fun o g _ q e=>(D.gbo o g b q e).2 hb⟩;have same:∀{j i:Nat},d[j]?=some i->(eD H i).kept=true->I[j]?=G[i]?:=by intro j i v U;obtain⟨x,hx,L⟩:=hXg j i v;have hk:eI (kinds X) j=true:=nQ hx (by rw[nj L];exact U);have hjl:=(List.getElem?_eq_some_iff.1 v).1;have hgs:Gs[j]?=some Gs[j]:=getElem?_eq_getElem (by rw[R];exact hjl);rw[t.gsame j _ hk hgs,<-hGs j i v,hgs]
 have hMg:Mg (fH d H) G G2:=by
  intro o g N q;have V:=(List.getElem?_eq_some_iff.1 q).1;by_cases W:o∈d
  .obtain⟨j,v⟩:=getElem?_of_mem W;show(fy G d I)[o]?=_;rw[F7 O Y F v,same v ?_]
   .exact q
   .simpa [fH,W]using N
  .show(fy G d I)[o]?=_;rw[F8 W V];exact q
 let H2:=fy (fF (fH d H) H) d (gi d H.length X');have hHl:∀i∈d,i<(fF (fH d H) H).length:=fun i hi=>by rw[pp,length_map];exact hlt i hi
 have hS2:St K1 G2 H2 w':=by
  refine⟨?_,A.kb,fun o g b q hb=>?_,fun o o' g T b q Z hb s=>?_,fun o g x q hx=>?_,A.tb⟩
  .show(fy G d I).length=(fy (fF (fH d H) H) d (gi d H.length X')).length;rw[Gr F,Gr (by rw[uQ];exact hXl1),pp,length_map,uQ,D.len,A.len]
  .rcases l q with⟨j,_,h⟩|⟨N,V,h⟩|⟨j,_,_,h⟩
   .exact A.gbo j g b h hb
   .have:=D.gbo o g b h hb;refine⟨Nat.lt_of_lt_of_le this.1 t.size,fun hk=>?_⟩;rcases t.knew b hk with p|⟨j0,M,h1,S⟩|p
    .exact this.2 p
    .obtain⟨i,z,hi⟩:=J h1;exact N (D.ijo o i g M b h hi hb S ▸ mem_of_getElem? z)
    .omega
   .exact A.gbo j g b h hb
  .have sep:∀{o:Nat} {g T:Gh} {b j:Nat},o∉d->G[o]?=some g->own g b->I[j]?=some T->own T b->False:=by
    intro o g T b j N h hb p s;have hbs:=(D.gbo o g b h hb).1;rcases old p s with⟨i,M,hi,h0,hb0⟩|h0
    .exact N (D.ijo o i g M b h h0 hb hb0 ▸ hi)
    .omega
   rcases l q with⟨j,v,h⟩|⟨N,V,h⟩|⟨j,v,N,h⟩ <;> rcases l Z with⟨j',u,p⟩|⟨C,hol',p⟩|⟨j',u,C,p⟩
   .obtain rfl:=A.ijo j j' g T b h p hb s;rw[v]at u;cases u;rfl
   .exact(sep C p s h hb).elim
   .obtain rfl:=A.ijo j j' g T b h p hb s;have:=(List.getElem?_eq_some_iff.1 v).1;omega
   .exact(sep N h hb p s).elim
   .exact D.ijo o o' g T b h p hb s
   .exact(sep N h hb p s).elim
   .obtain rfl:=A.ijo j j' g T b h p hb s;have:=(List.getElem?_eq_some_iff.1 u).1;omega
   .exact(sep C p s h hb).elim
   .obtain rfl:=A.ijo j j' g T b h p hb s;omega
  .have hcx:=Po O hHl (by rw[uQ];exact hXl1) hx;have hlenE:(fF (fH d H) H).length=G.length:=by rw[pp,length_map,D.len]
   have new:∀{j:Nat},I[j]?=some g->(gi d H.length X')[j]?=some x->ObR K1 w'.heap G2 g x:=by
    intro j h1 S;rw[Hz]at S;cases hy:X'[j]? with
    |none=>rw[hy]at S;cases S
    |some y =>
     rw[hy]at S;simp at S;subst S;exact FA g2new (A.ob j g y h1 hy)
   rcases l q with⟨j,v,h⟩|⟨N,V,h⟩|⟨j,v,N,h⟩
   .rcases hcx with⟨j',u,p⟩|⟨C,_,_⟩|⟨j',u,C,p⟩
    .have:=(getElem?_inj (List.getElem?_eq_some_iff.1 v).1 O).1 (v.trans u.symm);subst this;exact new h p
    .exact absurd (mem_of_getElem? v) C
    .have:=Y o (mem_of_getElem? v);omega
   .rcases hcx with⟨j',u,p⟩|⟨C,_,p⟩|⟨j',u,C,p⟩
    .exact absurd (mem_of_getElem? u) N
    .rw[pp,getElem?_map]at p;cases hy:H[o]? with
     |none=>rw[hy]at p;cases p
     |some y =>
      rw[hy]at p;simp at p;subst p;refine ObR.prune hMk hMg (fun b hb=>fr b (D.gbo o g b h hb).1 fun i T hi Z e=>?_) (D.ob o g y h hy);have:=D.ijo o i g T b h Z hb e;subst this;exact N hi
    .omega
   .rcases hcx with⟨j',u,p⟩|⟨C,hol',_⟩|⟨j',u,C,p⟩
    .have:=hlt o (mem_of_getElem? u);rw[<-D.len]at this;omega
    .omega
    .have:j=j':=by omega
     subst this;exact new h p
 have hX2:Ext (eI kl) B.K0 B.G0 B.w0 K1 G2 w':=by
  refine hX.trans ⟨t.os,t.tape,t.output,t.size,t.k,fun b hb=>?_,?_,fun o g b q hb=>?_,fun o M N h0=>?_,fun b hb hn=>fr b hb fun o g _ q=>hn o g q⟩
  .rcases t.knew b hb with p|⟨j0,M,h1,S⟩|p
   .exact .inl p
   .obtain⟨i,_,hi⟩:=J h1;exact .inr (.inl ⟨i,M,hi,S⟩)
   .exact .inr (.inr p)
  .show G.length<=(fy G d I).length;rw[Gr F];omega
  .have up:∀{j:Nat},I[j]?=some g->(∃(o0:Nat) (M:Gh),G[o0]?=some M/\own M b)∨w.heap.size<=b:=fun h=>(old h hb).imp (fun⟨i,M,_,h1,S⟩=>⟨i,M,h1,S⟩) id;rcases l q with⟨j,_,h⟩|⟨_,_,h⟩|⟨j,_,_,h⟩
   .exact up h
   .exact .inl ⟨o,g,h,hb⟩
   .exact up h
  .refine hMg o M ?_ h0;obtain⟨x,hx,U⟩:=hkp o N;have:(eD H o).kept=true:=by rw[G5 hx];exact U
   simp[fH,this]
 have hRV:RelV (cx P kl n B) (fZ (fH d H) E) H2 c' (fa d H.length r) a w':=by
  refine⟨K1,G2,hX2,hS2,fun m=>by rw[sH];exact VR.prune hMk hMg _ _ (hE m),hdf,hn,fun o N=>?_,xq g2new hv⟩;obtain⟨x,hx,U⟩:=hkp o N;have V:=(List.getElem?_eq_some_iff.1 hx).1;by_cases W:o∈d
  .obtain⟨j,v⟩:=getElem?_of_mem W;obtain⟨y,hy,L⟩:=hXg j o v;have hk:eI (kinds X) j=true:=nQ hy (by rw[nj L,G5 hx];exact U);obtain⟨y',hy',hkt'⟩:=hkp1 j hk;refine⟨Bg d H.length y',?_,by rw[xr];exact hkt'⟩;show(fy _ d _)[o]?=_;rw[F7 O hHl (by rw[uQ];exact hXl1) v,Hz,hy'];rfl
  .refine⟨x.prune (fH d H),?_,dh U⟩;show(fy _ d _)[o]?=_;rw[F8 W (by rw[pp,length_map];exact V),pp,getElem?_map,hx];rfl
 exact hK' c' r X' w' hpost hv.ok hRV
theorem BD{o:Oper}{c:Call}{g:Operand}{f:FuncId}{d args:List Va}{X:List Ob}{e:Va->List Ob->Prop}(b:List Nat)(hs:Does P f args X e)(q:o.op=.call c)(s:c.callee=.value g)(t:opOk true E g/\allOk true E c.args.toList)(u:opnd E g=.fn f d)
  (v:jC b (opnds E c.args.toList++d)=some args) (i:iI b H b=some X) (h:jc H.length b=true) {a:Act} {w:World} {Q:Exit->Act->World->Prop} {k:Act->World->Prop} (x:Rel (cx P kl n B) E H a w)
  (j:∀l r m p,e r m->r.ok->RelV (cx P kl n B) (fZ (fH b H) E) (fy (fF (fH b H) H) b (gi b H.length m)) l (fa b H.length r) a p->k (a.put o.dst l) p):o.wp P a w k Q :=
 kB b hs q s t u (fun y z=>k9 y v z) i h x j
theorem en{o:Oper}{l:List Oper}{f:FuncId}{av args:List Va}{X:List Ob}{d:Va->List Ob->Prop}(b:List Nat)(hs:Does P f args X d)(t:Is (x7 E o) (some (f,av)))(u:Is (jC b av) (some args))(i:Is (iI b H b) (some X))(e:jc H.length b=true)(j:ie n true E o)
  (g:∀r h,d r h->r.ok->fz P kl n B ops K (fv P kl n ops.toList l ⟨eP (fZ (fH b H) E) o.dst (fa b H.length r),fy (fF (fH b H) H) b (gi b H.length h),True⟩)):Rg P kl n B ops (o::l) E H K:=by
 obtain⟨c,v,p,q,x,s,y,rfl⟩:=NC t;obtain⟨z,A⟩:=qQ j q s;intro C a w Q D k;refine wpList_plain x fun J m=>?_;exact BD b hs q s A y u i e D fun L r h M F G I=>m _ _ (Rg.run (g r h F G) C _ _ _ (I.put o.dst (zY z)) k)
end
mutual
def jm(o:Nat)(r:Nat×List (List Dt)):Va->Va
 |.buf i=>if i=o then .p (.l r.2)else .buf i
 |.el i s j a=>if i=o then .top else .el i s j a
 |.ptr i a=>if i=o then .top else .ptr i a
 |.cs i a=>if i=o then .top else .cs i a
 |.mp i=>if i=o then .top else .mp i
 |.np i=>if i=o then .top else .np i
 |.sd i=>if i=o then .top else .sd i
 |.vw i s j n=>if i=o then(if s=r.1 then .p (.l ((r.2.drop j).take n))else .top)else .vw i s j n
 |.bufc i s=>if i=o then .top else .bufc i s
 |.nv i j=>if i=o then .top else .nv i j
 |.ne i s j l a=>if i=o then .top else .ne i s j l a
 |.fn f b=>.fn f (lQ o r b)
 |.agg b=>.agg (lQ o r b)
 |.tup b=>.tup (lQ o r b)
 |.cnd c v=>if v.all (· != o)then .cnd c v else .top
 |v=>v
def lQ(o:Nat)(r:Nat×List (List Dt)):List Va->List Va
 |[]=>[]
 |v::a=>jm o r v::lQ o r a
end
def tq(o:Nat)(r:Nat×List (List Dt)):ey->ey
 |[]=>[]
 |(k,v)::E=>(k,jm o r v)::tq o r E
def n9(o:Nat)(r:Nat×List (List Dt)):Ob->Ob
 |.cells T b=>.cells T (lQ o r b)
 |.it i c s=>if i=o then .gone else .it i c s
 |.nst f T d k p a e=>if p=o then(bif f then .lost else .gone)else .nst f T d k p a e
 |x=>x
def lR(o:Nat)(r:Nat×List (List Dt)):List Ob->List Ob
 |[]=>[]
 |x::H=>n9 o r x::lR o r H
theorem tp{o:Nat}{r:Nat×List (List Dt)}{x:Ob}(h:x.kept=true):(n9 o r x).kept=true:=by
 cases x <;> first|rfl|exact h|skip
 case it=>cases h
 case nst g T b k p a c =>
  simp only[n9];split
  .simp only[Ob.kept]at h;subst h;rfl
  .exact h
theorem n7(o:Nat)(r:Nat×List (List Dt)):∀(E:ey) (m:Nat),eR (tq o r E) m=jm o r (eR E m)
 |[],m=>by simp[tq,eR,jm]
 |(k,v)::E,m=>by
  simp only[tq,eR];split
  .rfl
  .exact n7 o r E m
theorem Ot(o:Nat)(r:Nat×List (List Dt)):∀(H:List Ob) (m:Nat),(lR o r H)[m]?=(H[m]?).map (n9 o r)
 |[],m=>by simp[lR]
 |x::H,0=>by simp[lR]
 |x::H,m+1=>by simp only[lR,getElem?_cons_succ];exact Ot o r H m
theorem PK(o:Nat)(r:Nat×List (List Dt)):∀H:List Ob,(lR o r H).length=H.length
 |[]=>rfl
 |x::H=>by simp[lR,PK o r H]
theorem OT{K:Nat->Prop}{h:Array Obj}{sz:Nat}:∀{a:Nat} {c:List Value} {d:List (List Dt)},DRss K h sz c d->DRss K h sz (c.drop (a*sz)) (d.drop a)
 |0,_,_,b=>by simpa using b
 |a+1,c,[],b=>by simp only[DRss]at b;subst b;simp[DRss]
 |a+1,c,r::d,b=>by
  simp only[DRss]at b;obtain⟨u,v,rfl,e,g,i⟩:=b;have f:=g.length;rw[drop_succ_cons,Nat.add_mul,Nat.one_mul,Nat.add_comm,<-drop_drop,show sz=u.length by rw[f,e],drop_left];have:=OT (a:=a) i
  rwa [show u.length=sz by rw[f,e]]
theorem OU{K:Nat->Prop}{h:Array Obj}{sz:Nat}:∀{n:Nat} {b:List Value} {a:List (List Dt)},DRss K h sz b a->DRss K h sz (b.take ((a.take n).length*sz)) (a.take n)
 |0,_,_,c=>by simp[DRss]
 |n+1,b,[],c=>by simp[DRss]
 |n+1,b,r::a,c=>by
  simp only[DRss]at c;obtain⟨u,v,rfl,e,d,f⟩:=c;have g:=d.length;simp only[take_succ_cons,length_cons,DRss];refine⟨u,v.take ((a.take n).length*sz),?_,e,d,OU f⟩;rw[Nat.add_mul,Nat.one_mul,Nat.add_comm,take_append,take_of_length_le (by omega)];congr 2;omega
theorem Dh{K:Nat->Prop}{h:Array Obj}{c:Value}{o:Option Nat}{w:Option Addr}{N g sz a n:Nat}{r:List (List Dt)}(y:DR K h (.slice w N g) (.l r))(D:∀x∈r,x.length=sz)(E:N7 c o w N g sz a n):DR K h c (.l ((r.drop a).take n)):=by
 obtain⟨p,i,d,rfl,z,F,k⟩:=E;simp only[DR]at y|-;rcases y with⟨⟨_,G⟩,rfl⟩|⟨b,q,R,cs,T,A,e,H,I,B,C,S,U,J,s⟩
 .cases G;obtain rfl:n=0:=by omega
  obtain rfl:a=0:=by omega
  obtain rfl:d=0:=by omega
  exact .inl ⟨⟨i,rfl⟩,by simp⟩
 .cases I;rcases Nat.eq_zero_or_pos d with rfl|L
  .obtain rfl:n=0:=by omega
   exact .inl ⟨⟨i,rfl⟩,by simp⟩
  .obtain⟨M,_,hb,rfl⟩:=k L;have t:b=M/\q=0:=by injection hb with hb;injection hb with O P _;exact⟨O,P⟩
   obtain⟨rfl,rfl⟩:=t;have u:r=[]∨e=sz:=by
    cases r with
    |nil=>exact .inl rfl
    |cons x r =>
     simp only[DRss]at s;obtain⟨_,_,_,Q,_⟩:=s;exact .inr (by rw[<-Q];exact D x (by simp))
   rcases u with rfl|rfl
   .obtain rfl:n=0:=by simp at p;omega
    exact .inr ⟨b,a*sz,d,cs,T,A,e,[],by simp,B,C,by simp,by simp,by simp,by simp[DRss]⟩
   have f:((r.drop a).take n).length=n:=by rw[length_take,length_drop];omega
   refine .inr ⟨b,a*e,d,cs,T,A,e,(H.drop (a*e)).take (n*e),by rw[f],B,C,by omega,by omega,fun j v m=>?_,?_⟩
   .rw[getElem?_take]at m;split at m
    .rw[getElem?_drop]at m;have:=J _ _ m
     rwa [Nat.zero_add]at this
    .cases m
   .have:=OU (n:=n) (OT (a:=a) s)
    rwa [f]at this
section
variable {K K':Nat->Prop} {h:Array Obj} {G G':List Gh} {o:Nat} {r:Nat×List (List Dt)}
mutual
theorem wI(k:∀b,K b->K' b)(m:Mg (· != o) G G')(q:∀g,G[o]?=some g->DR K' h g.sv (.l r.2))(y:∀x∈r.2,x.length=r.1):∀{c:Value} {v:Va},VR K h G c v->VR K' h G' c (jm o r v)
 |c,.p x,d=>VR.keep (f:=(· != o)) ⟨k,fun _ _=>rfl⟩ m c (.p x) rfl d
 |c,.nils,d=>VR.keep (f:=(· != o)) ⟨k,fun _ _=>rfl⟩ m c .nils rfl d
 |c,.full t,d=>VR.keep (f:=(· != o)) ⟨k,fun _ _=>rfl⟩ m c (.full t) rfl d
 |c,.rp z,d=>VR.keep (f:=(· != o)) ⟨k,fun _ _=>rfl⟩ m c (.rp z) rfl d
 |c,.nil,d=>VR.keep (f:=(· != o)) ⟨k,fun _ _=>rfl⟩ m c .nil rfl d
 |c,.raw v,d=>VR.keep (f:=(· != o)) ⟨k,fun _ _=>rfl⟩ m c (.raw v) rfl d
 |c,.er v,d=>VR.keep (f:=(· != o)) ⟨k,fun _ _=>rfl⟩ m c (.er v) rfl d
 |c,.top,_=>by simp[jm,VR]
 |c,.buf i,d=>by
  simp only[jm];split
  .rename_i e;subst e;simp only[VR]at *;obtain⟨g,A,rfl,_⟩:=d;exact q g A
  .rename_i e;exact VR.keep (f:=(· != o)) ⟨k,fun _ _=>rfl⟩ m c (.buf i) (by simpa [Va.all]using e) d
 |c,.el i s j a,d=>by
  simp only[jm];split
  .simp[VR]
  .rename_i e;exact VR.keep (f:=(· != o)) ⟨k,fun _ _=>rfl⟩ m c (.el i s j a) (by simpa [Va.all]using e) d
 |c,.ptr i a,d=>by
  simp only[jm];split
  .simp[VR]
  .rename_i e;exact VR.keep (f:=(· != o)) ⟨k,fun _ _=>rfl⟩ m c (.ptr i a) (by simpa [Va.all]using e) d
 |c,.cs i a,d=>by
  simp only[jm];split
  .simp[VR]
  .rename_i e;exact VR.keep (f:=(· != o)) ⟨k,fun _ _=>rfl⟩ m c (.cs i a) (by simpa [Va.all]using e) d
 |c,.mp i,d=>by
  simp only[jm];split
  .simp[VR]
  .rename_i e;exact VR.keep (f:=(· != o)) ⟨k,fun _ _=>rfl⟩ m c (.mp i) (by simpa [Va.all]using e) d
 |c,.np i,d=>by
  simp only[jm];split
  .simp[VR]
  .rename_i e;exact VR.keep (f:=(· != o)) ⟨k,fun _ _=>rfl⟩ m c (.np i) (by simpa [Va.all]using e) d
 |c,.sd i,d=>by
  simp only[jm];split
  .simp[VR]
  .rename_i e;exact VR.keep (f:=(· != o)) ⟨k,fun _ _=>rfl⟩ m c (.sd i) (by simpa [Va.all]using e) d
 |c,.vw i s j n,d=>by
  simp only[jm];split
  .rename_i e;subst e;split
   .rename_i E;subst E;simp only[VR]at d|-;obtain⟨g,H,N,F,A,B,C⟩:=d;exact Dh (B ▸ q g A) y C
   .simp[VR]
  .rename_i e;exact VR.keep (f:=(· != o)) ⟨k,fun _ _=>rfl⟩ m c (.vw i s j n) (by simpa [Va.all]using e) d
 |c,.bufc i s,d=>by
  simp only[jm];split
  .simp[VR]
  .rename_i e;exact VR.keep (f:=(· != o)) ⟨k,fun _ _=>rfl⟩ m c (.bufc i s) (by simpa [Va.all]using e) d
 |c,.nv i s,d=>by
  simp only[jm];split
  .simp[VR]
  .rename_i e;exact VR.keep (f:=(· != o)) ⟨k,fun _ _=>rfl⟩ m c (.nv i s) (by simpa [Va.all]using e) d
 |c,.ne i s j l a,d=>by
  simp only[jm];split
  .simp[VR]
  .rename_i e;exact VR.keep (f:=(· != o)) ⟨k,fun _ _=>rfl⟩ m c (.ne i s j l a) (by simpa [Va.all]using e) d
 |c,.fn f D,d=>by simp only[jm,VR]at *;obtain⟨cs,u,w⟩:=d;exact⟨cs,u,Hb k m q y w⟩
 |c,.agg D,d=>by simp only[jm,VR]at *;obtain⟨cs,u,w⟩:=d;exact⟨cs,u,Hb k m q y w⟩
 |c,.tup D,d=>by simp only[jm,VR]at *;obtain⟨cs,u,w⟩:=d;exact⟨cs,u,Hb k m q y w⟩
 |c,.cnd b v,d=>by
  simp only[jm];split
  .rename_i e;exact VR.keep (f:=(· != o)) ⟨k,fun _ _=>rfl⟩ m c (.cnd b v) (by simpa only[Va.all]using e) d
  .simp[VR]
theorem Hb(f:∀b,K b->K' b)(i:Mg (· != o) G G')(j:∀g,G[o]?=some g->DR K' h g.sv (.l r.2))(k:∀x∈r.2,x.length=r.1):∀{cs:List Value} {a:List Va},VRs K h G cs a->VRs K' h G' cs (lQ o r a)
 |cs,[],d=>by simpa only[lQ,VRs]using d
 |cs,v::a,d=>by simp only[lQ,VRs]at *;obtain⟨c,e,m,n,p⟩:=d;exact⟨c,e,m,wI f i j k n,Hb f i j k p⟩
end
end
section
variable {P:Program} {kl:List Bool} {n:Nat} {B:Bs} {Q:Qt} {E:ey} {H:List Ob}
theorem Wp.freeze{c:Code}(o:Nat){T:TypeId}{sz:Nat}{rows:List (List Dt)}(ho:Is (eD H o) (.buf T sz rows))(W:eI kl o=false)(hc:Wp P kl n B c Q (tq o (sz,rows) E) ((lR o (sz,rows) H).set o .gone)):Wp P kl n B c Q E H:=by
 intro hB a w hR;obtain⟨K,G,F,u,hE,hd,hn,Y⟩:=hR;have I:=zu ho (by simp);obtain⟨g,J,_⟩:=u.ghost I;have M:=(List.getElem?_eq_some_iff.1 J).1;let K':Nat->Prop:=fun b=>K b∨g.blk=some b;let G':=G.set o ⟨none,g.sv,[]⟩;have v:∀b,K b->K' b:=fun _ h=>.inl h;have C:Mg (· != o) G G':=fun i r hi d=>by
  show(G.set o _)[i]?=_;rw[getElem?_set_ne (by simpa using Ne.symm (by simpa using hi))];exact d
 have N:∀r,G[o]?=some r->DR K' w.heap r.sv (.l rows):=fun r d=>by
  rw[J]at d;cases d;exact sk u I J v fun b hb=>.inr hb
 have O:∀x∈(sz,rows).2,x.length=(sz,rows).1:=by obtain⟨_,xs,Z,_⟩:=u.ob o g _ J I;exact FZ Z
 have t:∀{i:Nat} {r:Gh},G'[i]?=some r->(i=o/\r=⟨none,g.sv,[]⟩)∨(i≠o/\G[i]?=some r):=by
  intro i r d;by_cases e:i=o
  .subst e;rw[show G'[i]?=some ⟨none,g.sv,[]⟩from getElem?_set_self M]at d;cases d;exact .inl ⟨rfl,rfl⟩
  .rw[show G'[i]?=G[i]? from getElem?_set_ne (Ne.symm e)]at d;exact .inr ⟨e,d⟩
 refine hc hB a w ⟨K',G',{ F with k:=fun b hb=>.inl (F.k b hb),knew:=fun b hb=>?_,glen:=?_,gown:=fun i r b d hb=>?_,gsame:=fun i g0 hi h0=>?_ },⟨?_,fun b hb=>?_,fun i r b d hb=>?_,fun i j r g'' b d R hb S=>?_,fun i r y d D=>?_,u.tb.mono ⟨fun _ h=>.inl h,fun _ _=>rfl⟩⟩,fun m=>?_,hd,hn,fun i hi=>?_⟩
 .rcases hb with hb|hb
  .exact F.knew b hb
  .exact .inr (F.gown o g b J (.inl hb))
 .show B.G0.length<=(G.set o _).length;rw[length_set];exact F.glen
 .rcases t d with⟨_,rfl⟩|⟨_,h⟩
  .exact(uh hb).elim
  .exact F.gown i r b h hb
 .have h1:=F.gsame i g0 hi h0;have U:o≠i:=fun e=>by rw[<-e]at hi;rw[show eI kl o=true from hi]at W;cases W
  show(G.set o _)[i]?=_;rw[getElem?_set_ne U];exact h1
 .show(G.set o _).length=_;rw[length_set,length_set,PK,u.len]
 .rcases hb with hb|hb
  .exact u.kb b hb
  .exact(u.gb o g b J hb).1
 .rcases t d with⟨_,rfl⟩|⟨e,h⟩
  .exact(uh hb).elim
  .refine⟨(u.gbo i r b h hb).1,fun z=>?_⟩;rcases z with z|z
   .exact(u.gbo i r b h hb).2 z
   .exact e (u.ijo i o r g b h J hb (.inl z))
 .rcases t d with⟨_,rfl⟩|⟨_,h⟩
  .exact(uh hb).elim
  .rcases t R with⟨_,rfl⟩|⟨_,h'⟩
   .exact(uh S).elim
   .exact u.ijo i j r g'' b h h' hb S
 .rcases t d with⟨rfl,rfl⟩|⟨e,h⟩
  .rw[getElem?_set_self (by rw[PK,<-u.len];exact M)]at D;cases D;trivial
  .rw[getElem?_set_ne (Ne.symm e),Ot]at D;cases V:H[i]? with
   |none=>rw[V]at D;cases D
   |some x =>
    rw[V]at D;simp at D;subst D;have s:=u.ob i r x h V;cases x with
    |cells T vs =>
     obtain⟨b,cs,h1,U,h3⟩:=s;exact⟨b,cs,h1,U,Hb v C N O h3⟩
    |buf X L A=>exact ObR.keep ⟨v,fun _ _=>rfl⟩ (Mg.refl (fun _=>true) G) (fun _ _=>rfl) rfl s
    |fx X L A=>exact ObR.keep ⟨v,fun _ _=>rfl⟩ (Mg.refl (fun _=>true) G) (fun _ _=>rfl) rfl s
    |sb X bs=>exact ObR.keep ⟨v,fun _ _=>rfl⟩ (Mg.refl (fun _=>true) G) (fun _ _=>rfl) rfl s
    |mp ag es=>exact ObR.keep ⟨v,fun _ _=>rfl⟩ (Mg.refl (fun _=>true) G) (fun _ _=>rfl) rfl s
    |mpb ag es bs cl=>exact ObR.keep ⟨v,fun _ _=>rfl⟩ (Mg.refl (fun _=>true) G) (fun _ _=>rfl) rfl s
    |it q cl seen =>
     simp only[n9];split
     .trivial
     .rename_i e;exact ObR.keep ⟨v,fun _ _=>rfl⟩ C (fun _ _=>rfl) (by simpa [Ob.all]using e) s
    |nst f X L k p A st =>
     simp only[n9];split
     .cases f <;> trivial
     .rename_i e;exact ObR.keep ⟨v,fun _ _=>rfl⟩ C (fun _ _=>rfl) (by simpa [Ob.all]using e) s
    |inn X L ins=>exact ObR.keep ⟨v,fun _ _=>rfl⟩ (Mg.refl (fun _=>true) G) (fun _ _=>rfl) rfl s
    |gone=>trivial
    |lost=>trivial
 .rw[n7];exact wI v C N O (hE m)
 .obtain⟨x,V,hkt⟩:=Y i hi;have U:o≠i:=fun e=>by rw[<-e]at hi;rw[show eI kl o=true from hi]at W;cases W
  refine⟨n9 o (sz,rows) x,?_,tp hkt⟩;rw[getElem?_set_ne U,Ot,V];rfl
end
attribute [go_sem] nk fD ip gX jC k8 iI iE fa i4 Bg gi fy jc fH jm lQ tq n9 lR
mutual
theorem Fz{c:List Nat}{d:Nat}:∀{v u:Va},fD c v=some u->fa c d u=v
 |.ptr o a,u,h=>by
  simp only[fD]at h;split at h
  .rename_i j b;cases h;simp only[fa,qL (ij b)]
  .cases h
 |.cs o a,u,h=>by
  simp only[fD]at h;split at h
  .rename_i j b;cases h;simp only[fa,qL (ij b)]
  .cases h
 |.el o s i a,u,h=>by
  simp only[fD]at h;split at h
  .rename_i j b;cases h;simp only[fa,qL (ij b)]
  .cases h
 |.buf o,u,h=>by
  simp only[fD]at h;split at h
  .rename_i j b;cases h;simp only[fa,qL (ij b)]
  .cases h
 |.mp o,u,h=>by
  simp only[fD]at h;split at h
  .rename_i j b;cases h;simp only[fa,qL (ij b)]
  .cases h
 |.np o,u,h=>by
  simp only[fD]at h;split at h
  .rename_i j b;cases h;simp only[fa,qL (ij b)]
  .cases h
 |.sd o,u,h=>by
  simp only[fD]at h;split at h
  .rename_i j b;cases h;simp only[fa,qL (ij b)]
  .cases h
 |.vw o _ _ _,u,h=>by
  simp only[fD]at h;split at h
  .rename_i j b;cases h;simp only[fa,qL (ij b)]
  .cases h
 |.bufc o _,u,h=>by
  simp only[fD]at h;split at h
  .rename_i j b;cases h;simp only[fa,qL (ij b)]
  .cases h
 |.nv o _,u,h=>by
  simp only[fD]at h;split at h
  .rename_i j b;cases h;simp only[fa,qL (ij b)]
  .cases h
 |.ne o _ _ _ _,u,h=>by
  simp only[fD]at h;split at h
  .rename_i j b;cases h;simp only[fa,qL (ij b)]
  .cases h
 |.fn f g,u,h=>by
  simp only[fD]at h;split at h
  .rename_i k e;cases h;simp only[fa,Hi e]
  .cases h
 |.agg g,u,h=>by
  simp only[fD]at h;split at h
  .rename_i k e;cases h;simp only[fa,Hi e]
  .cases h
 |.tup g,u,h=>by
  simp only[fD]at h;split at h
  .rename_i k e;cases h;simp only[fa,Hi e]
  .cases h
 |.cnd _ _,_,h=>by simp[fD]at h
 |.p x,u,h|.nils,u,h|.full x,u,h|.rp x,u,h|.nil,u,h|.raw x,u,h|.er x,u,h|.top,u,h=>by simp only[fD]at h;cases h;rfl
theorem Hi{a:List Nat}{b:Nat}:∀{d c:List Va},ip a d=some c->i4 a b c=d
 |[],c,h=>by simp only[ip]at h;cases h;rfl
 |v::d,c,h=>by
  simp only[ip]at h;split at h
  .rename_i u e f g;cases h;simp only[i4,Fz f,Hi g]
  .cases h
end
theorem xp{a:List Nat}{b:Nat}{x y:Ob}(h:k8 a x=some y):Bg a b y=x:=by
 cases x with
 |cells T g =>
  simp only[k8]at h;split at h
  .rename_i i d;cases h;simp only[Bg,Hi d]
  .cases h
 |it _ _ _=>simp[k8]at h
 |nst f T l k p c m =>
  simp only[k8]at h;split at h
  .rename_i j e;cases h;simp only[Bg,qL (ij e)]
  .cases h
 |_=>simp only[k8]at h;cases h;rfl
mutual
theorem RC:∀v:Va,v.prune (fun _=>true)=v
 |.ptr _ _|.cs _ _|.el _ _ _ _|.buf _|.mp _|.np _|.sd _|.vw _ _ _ _|.bufc _ _|.nv _ _|.ne _ _ _ _ _=>by simp[Va.prune]
 |.fn f a=>by simp only[Va.prune,Ij a]
 |.agg a=>by simp only[Va.prune,Ij a]
 |.tup a=>by simp only[Va.prune,Ij a]
 |.cnd c v=>by simp only[Va.prune,Va.all_true,if_true]
 |.p _|.nils|.full _|.rp _|.nil|.raw _|.er _|.top=>rfl
theorem Ij:∀a:List Va,de (fun _=>true) a=a
 |[]=>rfl
 |v::a=>by simp only[de,RC v,Ij a]
end
theorem PC:∀E:ey,fZ (fun _=>true) E=E
 |[]=>rfl
 |(k,v)::E=>by simp only[fZ,RC,PC E]
theorem PD:∀H:List Ob,fF (fun _=>true) H=H
 |[]=>rfl
 |x::H=>by simp only[fF,PD H];cases x <;> simp only[Ob.prune,Ij,if_true]
def uF(H:List Ob):List Nat->Bool
 |[]=>true
 |i::a=>(eD H i).kept&&uF H a
theorem RM{H:List Ob}{a:List Nat}(h:uF H a=true):fH a H=fun _=>true:=by
 funext o;simp only[fH];by_cases b:o∈a
 .have:(eD H o).kept=true:=by
   induction a with
   |nil=>cases b
   |cons i a c =>
    simp only[uF,Bool.and_eq_true]at h;rcases mem_cons.1 b with rfl|b
    .exact h.1
    .exact c h.2 b
  simp[this]
 .simp[b]
theorem vh{H X:List Ob}{a:List Nat}{b:Nat}(k:iI a H a=some X)(c:jc H.length a=true):fy H a (gi a b X)=H:=by
 obtain⟨f,d⟩:=Ng c;obtain⟨p,l⟩:=MO k;apply ext_getElem?;intro o;by_cases g:o∈a
 .obtain⟨j,i⟩:=getElem?_of_mem g;rw[F7 f d (by rw[uQ];omega) i,Hz];obtain⟨x,m,n⟩:=l j o i;rw[m];simp only[Option.map_some,xp n];have e:=d o g;rw[getElem?_eq_getElem e,G5 (getElem?_eq_getElem e)]
 .rcases Nat.lt_or_ge o H.length with h|h
  .exact F8 g h
  .rw[getElem?_eq_none h,getElem?_eq_none];rw[Gr (by rw[uQ];omega),uQ];omega
section
variable {P:Program} {kl:List Bool} {n:Nat} {B:Bs} {K:ey->List Ob->Prop} {E:ey} {H:List Ob}
theorem M9{o:Oper}{c:Call}{g:Operand}{f:FuncId}{d args:List Va}{X:List Ob}{v:Va}(b:List Nat)(hs:Does P f args X fun r q=>r=v/\q=X)(t:o.op=.call c)(u:c.callee=.value g)(l:opOk true E g/\allOk true E c.args.toList)(x:opnd E g=.fn f d)
  (y:jC b (opnds E c.args.toList++d)=some args) (h:iI b H b=some X) (e:jc H.length b=true) (m:uF H b=true) {a:Act} {w:World} {Q:Exit->Act->World->Prop} {s:Act->World->Prop} (z:Rel (cx P kl n B) E H a w)
  (p:∀j k,v.ok->RelV (cx P kl n B) E H j (fa b H.length v) a k->s (a.put o.dst j) k):o.wp P a w s Q:=by
 refine BD b hs t u l x y h e z fun j r q k ⟨A,C⟩ D i=>?_;subst A;subst C;rw[RM m,PC,PD,vh h e]at i;exact p j k D i
theorem Rg.callR{h:Array Oper}{o:Oper}{l:List Oper}{f:FuncId}{av args:List Va}{X:List Ob}{g:Bool}{v:Va}(b:List Nat)(hs:g=true->Does P f args X fun r U=>r=v/\U=X)(k:Is (g9 E o) (some (f,av)))(hb:Is (iK h.toList E o) (some g))(M:Is (jC b av) (some args))(t:Is (iI b H b) (some X))(m:jc H.length b=true)(u:uF H b=true)(A:ie n g E o)
  (x:fz P kl n B h K (fv P kl n h.toList l ⟨eP E o.dst (iA o.guard g (fa b H.length v)),H,True⟩)):Rg P kl n B h (o::l) E H K:=by
 unfold Is g9 at k;unfold Is iK at hb;split at k;rotate_left
 .cases k
 rename_i c D;split at k;rotate_left
 .cases k
 rename_i V F;split at k;rotate_left
 .cases k
 rename_i f' N O;cases k;obtain⟨I,R⟩:=qQ A D F;have d:=Rg.run x;intro J a w Q z p;cases s:o.guard with
 |none =>
  rw[s]at hb;obtain rfl:true=g:=Option.some.inj hb;refine wpList_plain s fun W i=>?_;rw[yL s]at d;exact M9 b (hs rfl) D F R O M t m u z fun Y Z _ q=>i _ _ (d J _ _ _ (q.put o.dst (zY I)) p)
 |some gw =>
  obtain⟨j,S⟩:=gw;rw[s]at hb;have T:=sG z s hb;rw[uL s]at d;refine wpList_step fun W i=>?_;cases g with
  |true =>
   rw[if_pos T];exact M9 b (hs rfl) D F R O M t m u z fun Y Z _ q=>i _ _ (d J _ _ _ (RelV.put (v:=.cnd true _) (by
    obtain⟨Kk,G,q1,q2,q3,q4,q5,q6,q7⟩:=q;exact⟨Kk,G,q1,q2,q3,q4,q5,q6,by simp only[VR];exact⟨fun _=>q7,fun e=>Bool.noConfusion e⟩⟩) o.dst (zY I)) p)
  |false =>
   rw[if_neg (by rw[T];simp)];obtain⟨Kk,G,hX,hS,hE,L,hn,y⟩:=z;exact i _ _ (d J _ _ _ (RelV.put (C:=cx P kl n B) (v:=.cnd false _) ⟨Kk,G,hX,hS,hE,L,hn,y,by simp[VR]⟩ o.dst (zY I)) p)
end
section
variable {P:Program} {kl:List Bool} {n:Nat} {B:Bs} {ops:List Oper} {K:ey->List Ob->Prop} {l:Plan} {obs:List En} {E:ey} {H:List Ob}
theorem dQ{k:Nat}{L:List Nat}{f:FuncId}{av args:List Va}{X Y:List Ob}{o:Oper}{v:Va}(b:List Nat)(hs:Does P f args X fun r F=>r=v/\F=Y)(s:Is ops[k]? (some o))(N:Is o.guard none)(d:Is (g9 E o) (some (f,av)))(G:Is (jC b av) (some args))(t:Is (iI b H b) (some X))(h:jc H.length b=true)(u:uF H b=true)(y:ie n true E o)
  (hag:ug L none (fy H b (gi b H.length Y)) obs)
  (i:kN P kl n B ops.toArray K (gO P kl n ops l ⟨obs,eP E o.dst (fa b H.length v),fy H b (gi b H.length Y),True⟩)):Br P kl n B ops.toArray k L l obs E H K:=by
 unfold Is at *;unfold g9 at d;split at d;rotate_left
 .cases d
 rename_i c z;split at d;rotate_left
 .cases d
 rename_i fop A;split at d;rotate_left
 .cases d
 rename_i V I J;cases d;obtain⟨O,j,m⟩:=qQ y z A;have C:=Dr.run i;simp only at C;rw[<-kS s]at C;refine Br.eff (po:=none) (fun _=>?_) hag C;intro E' D a w Q W R M;have g:=yC (iz s) D;rw[z]at g;have p:eN E fop=eN E' fop:=g fop (by simp[Op.operands,Call.operands,A]);have e:Agree c.args.toList E E':=fun x S=>g x (by simp only[Op.operands,Call.operands,Array.toList_append,mem_append];exact .inr S);rw[Agree.opOk p]at j;rw[Agree.allOk e]at m;rw[Agree.opnd p]at J;rw[Agree.opnds e]at G;rw[kS s]at M;unfold wpOp;simp only[iz s];rw[if_pos (by simp[Region.wanted,N])];refine .inl (BD b hs z A ⟨j,m⟩ J G t h R fun Z r F w' ⟨T,U⟩ _ q=>?_);subst T;subst U;rw[RM u,PC,PD]at q;exact M _ _ (q.put o.dst (zY O))
theorem Br.callR{k:Nat}{L:List Nat}{f:FuncId}{av args:List Va}{X:List Ob}{g:Bool}{o:Oper}{v:Va}(b:List Nat)(hs:g=true->Does P f args X fun r X'=>r=v/\X'=X)(y:Is ops[k]? (some o))(h:Is (g9 E o) (some (f,av)))(hb:Is (iK ops E o) (some g))(T:Is (jC b av) (some args))(z:Is (iI b H b) (some X))(i:jc H.length b=true)(A:uF H b=true)(U:ie n g E o)
  (hag:ug L none H obs)
  (D:kN P kl n B ops.toArray K (gO P kl n ops l ⟨obs,eP E o.dst (iA o.guard g (fa b H.length v)),H,True⟩)):Br P kl n B ops.toArray k L l obs E H K:=by
 unfold Is at *;unfold g9 at h;split at h;rotate_left
 .cases h
 rename_i c O;split at h;rotate_left
 .cases h
 rename_i fop R;split at h;rotate_left
 .cases h
 rename_i f' caps V;cases h;obtain⟨W,p,q⟩:=qQ U O R;have Y:=Dr.run D;simp only at Y;rw[<-kS y]at Y;refine Br.eff (po:=none) (fun _=>?_) hag Y;intro E' F a w Q K' S u;have s:=yC (iz y) F;rw[O]at s;have I:eN E fop=eN E' fop:=s fop (by simp[Op.operands,Call.operands,R]);have m:Agree c.args.toList E E':=fun x hx=>s x (by simp only[Op.operands,Call.operands,Array.toList_append,mem_append];exact .inr hx);rw[Agree.opOk I]at p;rw[Agree.allOk m]at q;rw[Agree.opnd I]at V;rw[Agree.opnds m]at T;rw[kS y]at u;unfold wpOp;simp only[iz y];unfold iK at hb;cases d:o.guard with
 |none =>
  rw[d]at hb u;obtain rfl:true=g:=Option.some.inj hb;rw[if_pos (by simp[Region.wanted,d])];exact .inl (M9 b (hs rfl) O R ⟨p,q⟩ V T z i A S fun c' w' _ t=>u _ _ (t.put o.dst (zY W)))
 |some gw =>
  obtain⟨j,J⟩:=gw;rw[d]at hb u;have M:je ops.toArray.toList E j J=some g:=by simpa using hb
  rw[<-CW (iz y) d F]at M;have hw:=sG S d M;cases g with
  |true =>
   rw[if_pos hw];exact .inl (M9 b (hs rfl) O R ⟨p,q⟩ V T z i A S fun c' w' _ t=>u _ _ (RelV.put (v:=.cnd true _) (by
    obtain⟨Kk,G,q1,q2,q3,q4,q5,q6,q7⟩:=t;exact⟨Kk,G,q1,q2,q3,q4,q5,q6,by simp only[VR];exact⟨fun _=>q7,fun e=>Bool.noConfusion e⟩⟩) o.dst (zY W)))
  |false =>
   rw[if_neg (by rw[hw];simp)];obtain⟨Kk,G,hX,hS,hE,Z,hn,N⟩:=S;exact u _ _ (RelV.put (C:=cx P kl n B) (v:=.cnd false _) ⟨Kk,G,hX,hS,hE,Z,hn,N,by simp[VR]⟩ o.dst (zY W))
end
attribute [go_sem] uF
section
variable {K V Z:Type} [DecidableEq K]
def eG:List (K×V)->K->Option V
 |[],_=>none
 |p::l,k=>bif decide (p.1=k)then some p.2 else eG l k
def eM:List (K×V)->K->V->List (K×V)
 |[],k,v=>[(k,v)]
 |p::l,k,v=>bif decide (p.1=k)then(k,v)::l else p::eM l k v
def jo:List (K×V)->K->List (K×V)
 |[],_=>[]
 |p::l,k=>bif decide (p.1=k)then l else p::jo l k
omit [DecidableEq K] in
def zH(kd:K->Dt)(e:V->List Dt)(l:List (K×V)):List (Dt×List Dt):=l.map fun p=>(kd p.1,e p.2)
def fK{A:Type}(a:A)(k:A->Option Z):Option Z:=k a
theorem jK{A:Type}{a:A}{k:A->Option Z}{z:Z}(h:fK a k=some z):∃x,a=x/\k x=some z:=⟨a,rfl,h⟩
variable {kd:K->Dt} {e:V->List Dt}
theorem OX(c:∀a b,fM (kd a) (kd b)=decide (a=b)):∀(l:List (K×V)) (k:K),jr (zH kd e l) (kd k)=(eG l k).map e
 |[],_=>rfl
 |p::l,k=>by
  have d:=OX c l k;simp only[zH]at d;simp only[zH,map_cons,jr,eG,c,d];cases decide (p.1=k) <;> rfl
theorem x8(c:∀a b,fM (kd a) (kd b)=decide (a=b)):∀(l:List (K×V)) (k:K) (v:V),iH (zH kd e l) (kd k) (e v)=zH kd e (eM l k v)
 |[],_,_=>rfl
 |p::l,k,v=>by
  have d:=x8 c l k v;simp only[zH]at d;simp only[zH,map_cons,iH,eM,c,d];cases decide (p.1=k) <;> rfl
theorem MK(c:∀a b,fM (kd a) (kd b)=decide (a=b)):∀(l:List (K×V)) (k:K),iG (zH kd e l) (kd k)=zH kd e (jo l k)
 |[],_=>rfl
 |p::l,k=>by
  have d:=MK c l k;simp only[zH]at d;simp only[zH,map_cons,iG,jo,c,d];cases decide (p.1=k) <;> rfl
theorem pC(c:∀a b,fM (kd a) (kd b)=decide (a=b))(l:List (K×V))(k:K)(d:V):yr (zH kd e l) (kd k) (e d)=e ((eG l k).getD d):=by
 simp only[yr,OX c];cases eG l k <;> rfl
theorem pD(c:∀a b,fM (kd a) (kd b)=decide (a=b))(l:List (K×V))(k:K):(jr (zH kd e l) (kd k)).isSome=(eG l k).isSome:=by
 rw[OX c];cases eG l k <;> rfl
omit [DecidableEq K] in
theorem ou(l:List (K×V)):(zH kd e l).length=l.length:=by simp[zH]
end
theorem wZ{K V:Type}(kd:K->Dt)(e:V->List Dt):zH kd e []=[]:=rfl
theorem fR(a b:ev):fM (Dt.s a) (Dt.s b)=decide (a=b):=rfl
theorem To(k:IntKind)(a b:Int):fM (Dt.i k a) (Dt.i k b)=decide (a=b):=rfl
theorem rD{V:Type}(e:V->List Dt):∀l:List (ev×V),jd (.tk .str) (zH Dt.s e l)=True
 |[]=>by simp only[zH,map_nil,jd]
 |p::l=>by have a:=rD e l;simp only[zH]at a;simp only[zH,map_cons,jd,kQ,a,and_self]
theorem rF{V:Type}(k:IntKind)(e:V->List Dt):∀l:List (Int×V),jd (.tk (.int k)) (zH (Dt.i k) e l)=True
 |[]=>by simp only[zH,map_nil,jd]
 |p::l=>by have a:=rF k e l;simp only[zH]at a;simp only[zH,map_cons,jd,kQ,a,and_self]
theorem lu{K V:Type}{kd:K->List Dt}{ks:List Kd}(h:∀x,zI ks (kd x))(e:V->List Dt):∀l:List (K×V),jd (.ks ks) (zH (fun x=>Dt.a (kd x)) e l)=True
 |[]=>by simp only[zH,map_nil,jd]
 |p::l=>by have b:=lu h e l;simp only[zH]at b;simp only[zH,map_cons,jd,kQ,b,and_true,eq_true (h p.1)]
attribute [go_sem] wZ rD rF ou
def Nv(P:Program)(f:FuncId)(args:List Va)(v:Va):Prop :=
 ∀K (w:World) vals,VRs K w.heap [] vals args->∃c,(callFunc f vals.toArray).run P w=.ok (.value c) w/\VR K w.heap [] c v
theorem Rx{P:Program}{o:Oper}{c:Call}{d:Operand}{f:FuncId}{cs:List Value}{a:Act}{w:World}(i:o.op=.call c)(h:c.callee=.value d)(j:a.eval d=.func (.func f) #[] cs.toArray) :
  (execOp a.eval o).run P w=(callFunc f ((c.args.toList.map a.eval)++cs).toArray).run P w:=by
 obtain⟨g,args,b⟩:=c;obtain⟨k,op,l,pos,m,n⟩:=o;cases i;simp only at h;subst h;have e:args.map a.eval=(args.toList.map a.eval).toArray:=by cases args;simp
 simp only[execOp,resolve,j,Deferred.ofValue,Sem.run_bind,Sem.run_pure,Result.andThen_ok,invoke];congr 2;simp
section
variable {P:Program} {kl:List Bool} {n:Nat} {B:Bs} {ops:Array Oper} {K:ey->List Ob->Prop} {E:ey} {H:List Ob}
theorem j4{o:Oper}{c:Call}{b:Operand}{f:FuncId}{d args:List Va}{v:Va}(hs:Nv P f args v)(z:o.op=.call c)(A:c.callee=.value b)
  (i:opOk true E b/\allOk true E c.args.toList) (C:opnd E b=.fn f d) (D:js H (opnds E c.args.toList++d)=some args) (e:v.flat=true) {a:Act} {w:World} {Q:Exit->Act->World->Prop} {t:Act->World->Prop}
  (F:Rel (cx P kl n B) E H a w) (I:v.ok->∀l u,RelV (cx P kl n B) E H l v a u->t (a.put o.dst l) u):o.wp P a w t Q:=by
 obtain⟨Kk,G,J,x,m,p,K,q⟩:=F;have g:=zG m rfl b i.1;rw[C]at g;simp only[VR]at g;obtain⟨cs,r,s⟩:=g;have h:=x9 m rfl c.args.toList i.2;have j:=yF x D (h.append s);obtain⟨l,k,y⟩:=hs _ w _ j;unfold Oper.wp;rw[Rx z A r,k];simp only[Oper.upon];exact I y.ok l w ⟨Kk,G,J,x,m,p,K,q,Ha e y⟩
theorem dB{o:Oper}{l:List Oper}{f:FuncId}{av args:List Va}{g:Bool}{v:Va}(hs:g=true->Nv P f args v)(i:Is (g9 E o) (some (f,av)))(hb:Is (iK ops.toList E o) (some g))(J:Is (js H av) (some args))(x:ie n g E o)(L:Is v.flat true)
  (d:(g=true->v.ok)->fz P kl n B ops K (fv P kl n ops.toList l ⟨eP E o.dst (iA o.guard g v),H,True⟩)):Rg P kl n B ops (o::l) E H K:=by
 unfold Is g9 at i;unfold Is iK at hb;split at i;rotate_left
 .cases i
 rename_i c y;split at i;rotate_left
 .cases i
 rename_i U z;split at i;rotate_left
 .cases i
 rename_i Y M N;cases i;obtain⟨A,O⟩:=qQ x y z;cases m:o.guard with
 |none =>
  rw[m]at hb;obtain rfl:true=g:=Option.some.inj hb;intro t a w Q s u;refine wpList_plain m fun V h=>?_;refine j4 (hs rfl) y z O N J L s fun p R w' b=>?_;have k:=d fun _=>p;rw[yL m]at k;exact h _ _ (Rg.run k t _ _ _ (b.put o.dst (zY A)) u)
 |some W =>
  obtain⟨j,S⟩:=W;rw[m]at hb;intro t a w Q s u;have T:=sG s m hb;refine wpList_step fun V h=>?_;cases g with
  |true =>
   rw[if_pos T];refine j4 (hs rfl) y z O N J L s fun p R w' b=>?_;have k:=d fun _=>p;rw[uL m]at k;have b:RelV (cx P kl n B) E H R (.cnd true v) a w':=by obtain⟨Kk,G,C,D,F,q,I,r,X⟩:=b;exact⟨Kk,G,C,D,F,q,I,r,by simp only[VR];exact⟨fun _=>X,fun e=>Bool.noConfusion e⟩⟩
   exact h _ _ (Rg.run k t _ _ _ (b.put o.dst (zY A)) u)
  |false =>
   rw[if_neg (by rw[T];simp)];obtain⟨Kk,G,C,D,F,q,I,r⟩:=s;have b:RelV (cx P kl n B) E H undef (.cnd false v) a w:=⟨Kk,G,C,D,F,q,I,r,by simp[VR]⟩;have k:=d fun e=>Bool.noConfusion e;rw[uL m]at k;exact h _ _ (Rg.run k t _ _ _ (b.put o.dst (zY A)) u)
end
def Ec(m:Nat)(b:List Bool)(v:Va)(Y H:List Ob)(a:Pv):Prop :=
 a.ok/\b.length<=m/\m<=H.length/\(gJ m H a.v).all (fun o=>decide (o<m))=true/\iv (fun o=>decide (o<m)) (gl m H (H.take m))=true /\
  gf (gJ m H a.v) v/\leH (gl m H (H.take m)) Y/\Y.length=m/\v.all (fun o=>decide (o<m))=true/\iv (fun o=>decide (o<m)) Y=true
section
variable {P:Program} {kl:List Bool} {rs:List ResultVar} {m:Nat} {E:ey} {H Y:List Ob} {v:Va}
theorem y8(h:Ec m kl v Y H (gY P E H rs)):i6 P rs m kl (fun r X=>r=v/\X=Y) E H:=by obtain⟨b,c,d,e,f,g,i,j,k,a⟩:=h;exact⟨b,c,d,e,f,_,_,g,i,j,k,a,rfl,rfl⟩
theorem z2(h:Ec m kl v Y H (gY P E H rs)):s3 P rs m kl (fun r X=>r=v/\X=Y) .ret E H:=y8 h
end
theorem u6{n:Nat}{rows:List (List Dt)}{i:Nat}{r:List Dt}(h:fh n rows)(b:r.length=n):fh n (rows.set i r)=True :=
 eq_true fun x a=>by
  rcases mem_or_eq_of_mem_set a with a|rfl
  .exact h x a
  .exact b
theorem mU(n:Nat)(a b:List (List Dt)):fh n (a++b)=(fh n a/\fh n b):=by unfold fh;simp only[mem_append,eq_iff_iff];exact⟨fun h=>⟨fun r c=>h r (.inl c),fun r c=>h r (.inr c)⟩,fun h r c=>c.elim (h.1 r) (h.2 r)⟩
theorem sP{n k:Nat}{rows:List (List Dt)}(h:fh n rows):fh n (rows.take k)=True:=eq_true fun x a=>h x (mem_of_mem_take a)
theorem sR{n k:Nat}{rows:List (List Dt)}(h:fh n rows):fh n (rows.drop k)=True:=eq_true fun x a=>h x (mem_of_mem_drop a)
theorem TS{n k:Nat}{r:List Dt}(a:r.length=n):fh n (List.replicate k r)=True:=eq_true fun x b=>by rw[(mem_replicate.1 b).2];exact a
attribute [go_sem] length_map Int.toNat_natCast sM tC oP bne_self_eq_false
attribute [go_sem] Ec u6 mU sP sR TS
def xV(s:List UInt8)(c:Int):Int:=Lib.indexByte s c.toNat.toUInt8
def yv(s:List UInt8)(c:Int):Int:=(s.count c.toNat.toUInt8:Nat)
def fb(a b:List UInt8):Int:=Lib.compareBytes a b
theorem Cb(c:UInt8):∀s:List UInt8,-1<=Lib.indexByte s c/\(Lib.indexByte s c<s.length∨Lib.indexByte s c=-1)
 |[]=>by simp[Lib.indexByte]
 |b::s=>by
  have:=Cb c s;unfold Lib.indexByte;simp only[length_cons];split
  .omega
  .split <;> (rename_i h;simp only[beq_iff_eq]at h;omega)
theorem kf(s:List UInt8)(c:Int):-1<=xV s c/\(xV s c<s.length∨xV s c=-1):=Cb c.toNat.toUInt8 s
theorem Rn(s:List UInt8)(c:Int):0<=yv s c/\yv s c<=s.length:=by unfold yv;have:=count_le_length (a:=c.toNat.toUInt8) (l:=s);omega
theorem mf(a b:List UInt8):-1<=fb a b/\fb a b<=1:=by
 unfold fb;induction a generalizing b with
 |nil=>cases b <;> simp[Lib.compareBytes]
 |cons x a c =>
  cases b with
  |nil=>simp[Lib.compareBytes]
  |cons y b =>
   unfold Lib.compareBytes;have:=c b;split
   .omega
   .split <;> omega
theorem Nv.indexByte {P:Program} {f:FuncId} {fn:Func} (e:P.funcs[f]?=some fn) (d:(fn.name == "runtime.NumGoroutine")=false) (hb:fn.body.isNone=true) (g:Extern.findNext fn=none) (he:Extern.find fn=some Extern.BytealgIndexByte.indexByte) (s:List UInt8) (c:Int) :
  Nv P f [.p (.s s),.p (.i .u8 c)] (.p (.i .i64 (xV s c))):=by
 intro K w vals h;simp only[VRs,VR,DR]at h;obtain⟨a,r,rfl,⟨rfl,j⟩,b,k,rfl,⟨rfl,l⟩,rfl⟩:=h;refine⟨.int .i64 (xV s c),?_,?_⟩
 .rw[run_callFunc_extern e d hb g he,Lib.run_indexByteString];simp only[Result.andThen,xV]
 .simp only[VR,DR,true_and];have:=kf s c;simp only[eE]at j;simp only[Fits,lo,hi];omega
theorem Nv.countByte {P:Program} {f:FuncId} {fn:Func} (e:P.funcs[f]?=some fn) (d:(fn.name == "runtime.NumGoroutine")=false) (hb:fn.body.isNone=true) (g:Extern.findNext fn=none) (he:Extern.find fn=some Extern.BytealgCount.count) (s:List UInt8) (c:Int) :
  Nv P f [.p (.s s),.p (.i .u8 c)] (.p (.i .i64 (yv s c))):=by
 intro K w vals h;simp only[VRs,VR,DR]at h;obtain⟨a,r,rfl,⟨rfl,j⟩,b,k,rfl,⟨rfl,l⟩,rfl⟩:=h;refine⟨.int .i64 (yv s c),?_,?_⟩
 .rw[run_callFunc_extern e d hb g he,Lib.run_countString];simp only[Result.andThen,yv,Lib.countByte]
 .simp only[VR,DR,true_and];have:=Rn s c;simp only[eE]at j;simp only[Fits,lo,hi];omega
theorem Nv.compare {P:Program} {f:FuncId} {fn:Func} (d:P.funcs[f]?=some fn) (c:(fn.name == "runtime.NumGoroutine")=false) (hb:fn.body.isNone=true) (e:Extern.findNext fn=none) (he:Extern.find fn=some Extern.BytealgCompare.compare) (a b:List UInt8) :
  Nv P f [.p (.s a),.p (.s b)] (.p (.i .i64 (fb a b))):=by
 intro K w vals h;simp only[VRs,VR,DR]at h;obtain⟨x,r,rfl,⟨rfl,j⟩,y,k,rfl,⟨rfl,g⟩,rfl⟩:=h;refine⟨.int .i64 (fb a b),?_,?_⟩
 .rw[run_callFunc_extern d c hb e he,Lib.run_compareString];simp only[Result.andThen,fb]
 .simp only[VR,DR,true_and];have:=mf a b;simp only[Fits,lo,hi];omega
theorem tM(d:Dt):1<=kO d:=by cases d <;> simp only[kO] <;> omega
theorem tN{r:List Dt}(h:r≠[]):1<=fQ r:=by
 cases r with
 |nil=>exact absurd rfl h
 |cons d r=>simp only[fQ];have:=tM d;omega
theorem oI{r:List Dt}:∀{rows:List (List Dt)},r∈rows->fQ r<=kR rows
 |x::rows,h=>by
  simp only[kR];rcases mem_cons.1 h with rfl|h
  .omega
  .have:=oI h;omega
theorem CV{α:Type}{f:α->List Dt}{l:List α}{x:α}(h:x∈l):fQ (f x)<=kR (l.map f):=oI (mem_map_of_mem h)
theorem Gy{α:Type}{f:α->List Dt}(a:∀x,f x≠[]):∀l:List α,l.length<=kR (l.map f)
 |[]=>by simp[kR]
 |x::l=>by have:=Gy a l;have:=tN (a x);simp only[map_cons,kR,length_cons];omega
def NvI(P:Program)(f:FuncId):Prop:=∀(c:Value) (w:World),(callFunc f #[c]).run P w=.ok (.value c) w
theorem NvI.noEscape {P:Program} {f:FuncId} {fn:Func} (b:P.funcs[f]?=some fn) (a:(fn.name == "runtime.NumGoroutine")=false) (hb:fn.body.isNone=true) (d:Extern.findNext fn=none) (he:Extern.find fn=some Extern.AbiNoEscape.same):NvI P f:=by intro c w;rw[run_callFunc_extern b a hb d he,Lib.run_noEscape];rfl
section
variable {P:Program} {kl:List Bool} {n:Nat} {B:Bs} {ops:Array Oper} {K:ey->List Ob->Prop} {E:ey} {H:List Ob}
theorem RS{o:Oper}{c:Call}{d:Operand}{f:FuncId}{e:List Va}{v:Va}(hs:NvI P f)(u:o.op=.call c)(x:c.callee=.value d)
  (k:opOk true E d/\allOk true E c.args.toList) (y:opnd E d=.fn f e) (z:opnds E c.args.toList++e=[v]) {a:Act} {w:World} {Q:Exit->Act->World->Prop} {t:Act->World->Prop}
  (A:Rel (cx P kl n B) E H a w) (C:∀l,RelV (cx P kl n B) E H l v a w->t (a.put o.dst l) w):o.wp P a w t Q:=by
 obtain⟨Kk,G,D,F,m,p,I,q⟩:=A;have g:=zG m rfl d k.1;rw[y]at g;simp only[VR]at g;obtain⟨cs,r,s⟩:=g;have h:=x9 m rfl c.args.toList k.2;have b:=h.append s;rw[z]at b;simp only[VRs]at b;obtain⟨l,J,i,j,rfl⟩:=b;unfold Oper.wp;rw[Rx u x r,i,hs l w];simp only[Oper.upon];exact C l ⟨Kk,G,D,F,m,p,I,q,j⟩
theorem ep{o:Oper}{l:List Oper}{f:FuncId}{v:Va}{g:Bool}(hs:NvI P f)(i:Is (g9 E o) (some (f,[v])))(hb:Is (iK ops.toList E o) (some g))(z:ie n g E o)
  (d:fz P kl n B ops K (fv P kl n ops.toList l ⟨eP E o.dst (iA o.guard g v),H,True⟩)):Rg P kl n B ops (o::l) E H K:=by
 unfold Is g9 at i;unfold Is iK at hb;split at i;rotate_left
 .cases i
 rename_i c A;split at i;rotate_left
 .cases i
 rename_i T C;split at i;rotate_left
 .cases i
 rename_i U r M;have s:=Option.some.inj i;obtain rfl:U=f:=congrArg Prod.fst s;have u:opnds E c.args.toList++r=[v]:=congrArg Prod.snd s;obtain⟨D,N⟩:=qQ z A C;cases m:o.guard with
 |none =>
  rw[m]at hb;obtain rfl:true=g:=Option.some.inj hb;intro x a w Q t y;refine wpList_plain m fun V h=>?_;refine RS hs A C N M u t fun O b=>?_;have k:=d;rw[yL m]at k;exact h _ _ (Rg.run k x _ _ _ (b.put o.dst (zY D)) y)
 |some W =>
  obtain⟨j,R⟩:=W;rw[m]at hb;intro x a w Q t y;have S:=sG t m hb;refine wpList_step fun V h=>?_;cases g with
  |true =>
   rw[if_pos S];refine RS hs A C N M u t fun O b=>?_;have k:=d;rw[uL m]at k;have b:RelV (cx P kl n B) E H O (.cnd true v) a w:=by obtain⟨Kk,G,F,I,J,p,L,q,u⟩:=b;exact⟨Kk,G,F,I,J,p,L,q,by simp only[VR];exact⟨fun _=>u,fun e=>Bool.noConfusion e⟩⟩
   exact h _ _ (Rg.run k x _ _ _ (b.put o.dst (zY D)) y)
  |false =>
   rw[if_neg (by rw[S];simp)];obtain⟨Kk,G,F,I,J,p,L,q⟩:=t;have b:RelV (cx P kl n B) E H undef (.cnd false v) a w:=⟨Kk,G,F,I,J,p,L,q,by simp[VR]⟩;have k:=d;rw[uL m]at k;exact h _ _ (Rg.run k x _ _ _ (b.put o.dst (zY D)) y)
end
theorem oH{Z A:Type}{z:Z}{g:Bool}{a:Option A}{d:A}{k:A->Option Z}(h:callG g a d k=some z):∃x,(g=true->a=some x)/\(g=false->x=d)/\k x=some z:=by
 cases g with
 |true=>obtain⟨x,b,c⟩:=zd h;exact⟨x,fun _=>b,fun e=>Bool.noConfusion e,c⟩
 |false=>exact⟨d,fun e=>Bool.noConfusion e,fun _=>rfl,h⟩
theorem Rel.forget{C:Cx}{E:ey}{H:List Ob}{a:Act}{w:World}{b:List Nat}{X:List Ob}(D:iI b H b=some X)(k:jc H.length b=true)(F:Rel C E H a w) :
  Rel C (fZ (fH b H) E) (fy (fF (fH b H) H) b (gi b H.length X)) a w:=by
 obtain⟨Kk,G,I,f,J,K,L,M⟩:=F;obtain⟨u,l⟩:=Ng k;obtain⟨Q,N⟩:=MO D;have n:(fF (fH b H) H).length=H.length:=by rw[pp,length_map]
 have A:Mn Kk Kk w.heap w.heap:=⟨fun _ h=>h,fun _ _=>rfl⟩;have p:Mg (fH b H) G G:=fun _ _ _ h=>h;have q:b.length<=(gi b H.length X).length:=by rw[uQ];omega
 have c:(fy (fF (fH b H) H) b (gi b H.length X)).length=H.length:=by rw[Gr q,uQ,n];omega
 have r:∀(o:Nat) (y:Ob),(fy (fF (fH b H) H) b (gi b H.length X))[o]?=some y->∃x,H[o]?=some x/\(y=x∨y=x.prune (fH b H)):=by
  intro o y v;rcases Po u (fun i hi=>by rw[n];exact l i hi) q v with⟨j,z,h⟩|⟨_,_,h⟩|⟨j,z,_,h⟩
  .rw[Hz]at h;obtain⟨x,e,O⟩:=N j o z;rw[e]at h;simp only[Option.map_some,xp O,Option.some.injEq]at h;have d:=l o (mem_of_getElem? z);rw[G5 (getElem?_eq_getElem d)]at h;exact⟨_,getElem?_eq_getElem d,.inl h.symm⟩
  .rw[pp,getElem?_map]at h;cases e:H[o]? with
   |none=>rw[e]at h;cases h
   |some x=>rw[e]at h;exact⟨x,rfl,.inr (Option.some.inj h).symm⟩
  .have:=(List.getElem?_eq_some_iff.1 h).1;rw[uQ]at this;omega
 refine⟨Kk,G,I,⟨by rw[c];exact f.len,f.kb,f.gbo,f.ijo,fun o g y s v=>?_,f.tb⟩,fun m=>by rw[sH];exact VR.prune A p _ _ (J m),K,L,fun o P=>?_⟩
 .obtain⟨x,e,rfl|rfl⟩:=r o y v
  .exact f.ob o g _ s e
  .exact ObR.prune A p (fun _ _=>rfl) (f.ob o g _ s e)
 .obtain⟨x,e,B⟩:=M o P;have d:=(List.getElem?_eq_some_iff.1 e).1;obtain⟨R,t,h⟩:=r o _ (getElem?_eq_getElem (by rw[c];exact d));rw[e]at t;cases t;refine⟨_,getElem?_eq_getElem (by rw[c];exact d),?_⟩;rcases h with h|h
  .rw[h];exact B
  .rw[h];exact dh B
section
variable {P:Program} {kl:List Bool} {n:Nat} {B:Bs} {ops:Array Oper} {K:ey->List Ob->Prop} {E:ey} {H:List Ob}
theorem ec{o:Oper}{l:List Oper}{f:FuncId}{av args:List Va}{X Y:List Ob}{g:Bool}{v:Va}(b:List Nat)(hs:g=true->Does P f args X fun r y=>r=v/\y=Y)(V:g=false->Y=X)(k:Is (g9 E o) (some (f,av)))(hb:Is (iK ops.toList E o) (some g))(N:Is (jC b av) (some args))(m:Is (iI b H b) (some X))(h:jc H.length b=true)(z:ie n g E o)
  (t:fz P kl n B ops K (fv P kl n ops.toList l ⟨eP (fZ (fH b H) E) o.dst (iA o.guard g (fa b H.length v)),fy (fF (fH b H) H) b (gi b H.length Y),True⟩)):Rg P kl n B ops (o::l) E H K:=by
 unfold Is g9 at k;unfold Is iK at hb;split at k;rotate_left
 .cases k
 rename_i c A;split at k;rotate_left
 .cases k
 rename_i W D;split at k;rotate_left
 .cases k
 rename_i f' O R;cases k;obtain⟨F,S⟩:=qQ z A D;have d:=Rg.run t;intro I a w Q x p;cases s:o.guard with
 |none =>
  rw[s]at hb;obtain rfl:true=g:=Option.some.inj hb;refine wpList_plain s fun Z i=>?_;rw[yL s]at d;refine BD b (hs rfl) A D S R N m h x fun c' r y w' ⟨J,L⟩ _ q=>?_;subst J;subst L;exact i _ _ (d I _ _ _ (q.put o.dst (zY F)) p)
 |some gw =>
  obtain⟨j,T⟩:=gw;rw[s]at hb;have U:=sG x s hb;rw[uL s]at d;refine wpList_step fun Z i=>?_;cases g with
  |true =>
   rw[if_pos U];refine BD b (hs rfl) A D S R N m h x fun c' r y w' ⟨J,L⟩ _ q=>?_;subst J;subst L;exact i _ _ (d I _ _ _ (RelV.put (v:=.cnd true _) (by
    obtain⟨Kk,G,q1,q2,q3,q4,q5,q6,q7⟩:=q;exact⟨Kk,G,q1,q2,q3,q4,q5,q6,by simp only[VR];exact⟨fun _=>q7,fun e=>Bool.noConfusion e⟩⟩) o.dst (zY F)) p)
  |false =>
   rw[if_neg (by rw[U];simp)];rw[V rfl]at d;obtain⟨Kk,G,hX,hS,hE,M,hn,u⟩:=x.forget m h;exact i _ _ (d I _ _ _ (RelV.put (C:=cx P kl n B) (v:=.cnd false _) ⟨Kk,G,hX,hS,hE,M,hn,u,by simp[VR]⟩ o.dst (zY F)) p)
end
def Hx(s:Nat)(H:List Ob):List Nat->Bool
 |[]=>true
 |i::a=>((eD H i).kept||decide (i=s))&&Hx s H a
def MM(s:Nat)(H:List Ob)(a:List Nat):Bool:=a.contains s&&!(eD H s).kept&&Hx s H a
theorem nS{s:Nat}{H:List Ob}{a:List Nat}(h:MM s H a=true):fH a H=(· != s):=by
 simp only[MM,Bool.and_eq_true]at h;obtain⟨⟨g,j⟩,k⟩:=h;have d:∀(l:List Nat) (o:Nat),Hx s H l=true->o∈l->o≠s->(eD H o).kept=true:=by
  intro l;induction l with
  |nil=>intro o _ b;cases b
  |cons i l m =>
   intro o e b c;simp only[Hx,Bool.and_eq_true,Bool.or_eq_true,decide_eq_true_eq]at e;rcases mem_cons.1 b with rfl|b
   .rcases e.1 with h|h
    .exact h
    .exact absurd h c
   .exact m o e.2 b c
 funext o;simp only[fH];by_cases b:o=s
 .subst b;have n:(eD H o).kept=false:=by simpa using j
  rw[g,n];simp
 .by_cases f:o∈a
  .rw[d a o k f b];simp[b]
  .have:a.contains o=false:=by simpa using f
   rw[this];simp[b]
section
variable {P:Program} {kl:List Bool} {n:Nat} {B:Bs} {ops:List Oper} {K:ey->List Ob->Prop} {l:Plan} {obs:List En} {E:ey} {H:List Ob}
theorem eu{k:Nat}{L:List Nat}{f:FuncId}{av args:List Va}{X Y:List Ob}{o:Oper}{v:Va}(s:Nat)(b:List Nat)(hs:Does P f args X fun r G=>r=v/\G=Y)(t:Is ops[k]? (some o))(O:Is o.guard none)(d:Is (g9 E o) (some (f,av)))(I:Is (jC b av) (some args))(u:Is (iI b H b) (some X))(h:jc H.length b=true)(y:MM s H b=true)(z:ie n true E o)
  (hag:ug L (some (· != s)) (fy (fF (· != s) H) b (gi b H.length Y)) obs)
  (i:kN P kl n B ops.toArray K (gO P kl n ops l ⟨obs,eP (fZ (· != s) E) o.dst (fa b H.length v),fy (fF (· != s) H) b (gi b H.length Y),True⟩)):Br P kl n B ops.toArray k L l obs E H K:=by
 unfold Is at *;unfold g9 at d;split at d;rotate_left
 .cases d
 rename_i c A;split at d;rotate_left
 .cases d
 rename_i fop C;split at d;rotate_left
 .cases d
 rename_i W J M;cases d;obtain⟨R,j,m⟩:=qQ z A C;have D:=Dr.run i;simp only at D;rw[<-kS t]at D;refine Br.eff (po:=some (· != s)) (fun _=>?_) hag D;intro E' F a w Q Z S N;have g:=yC (iz t) F;rw[A]at g;have p:eN E fop=eN E' fop:=g fop (by simp[Op.operands,Call.operands,C]);have e:Agree c.args.toList E E':=fun x T=>g x (by simp only[Op.operands,Call.operands,Array.toList_append,mem_append];exact .inr T);rw[Agree.opOk p]at j;rw[Agree.allOk e]at m;rw[Agree.opnd p]at M;rw[Agree.opnds e]at I;rw[kS t]at N;unfold wpOp;simp only[iz t];rw[if_pos (by simp[Region.wanted,O])];refine .inl (BD b hs A C ⟨j,m⟩ M I u h S fun c' r G w' ⟨U,V⟩ _ q=>?_);subst U;subst V;rw[nS y]at q;exact N _ _ (q.put o.dst (zY R))
end
attribute [go_sem] Hx MM
theorem yK:∀a b:List (List Dt),gD (a++b)=gD a++gD b
 |[],b=>rfl
 |[]::a,b=>by simp only[cons_append,gD,yK a b]
 |[.i _ n]::a,b=>by simp only[cons_append,gD,yK a b]
 |[.b _]::a,b=>by simp only[cons_append,gD,yK a b]
 |[.s _]::a,b=>by simp only[cons_append,gD,yK a b]
 |[.l _]::a,b=>by simp only[cons_append,gD,yK a b]
 |[.a _]::a,b=>by simp only[cons_append,gD,yK a b]
 |[.r _]::a,b=>by simp only[cons_append,gD,yK a b]
 |(_::_::_)::a,b=>by simp only[cons_append,gD,yK a b]
theorem R1:∀a b:List (List Dt),fN (a++b)=(fN a/\fN b)
 |[],b=>by simp[fN]
 |[]::a,b=>by simp[fN]
 |[.i _ n]::a,b=>by simp[fN,R1 a b,and_assoc]
 |[.b _]::a,b=>by simp[fN]
 |[.s _]::a,b=>by simp[fN]
 |[.l _]::a,b=>by simp[fN]
 |[.a _]::a,b=>by simp[fN]
 |[.r _]::a,b=>by simp[fN]
 |(_::_::_)::a,b=>by simp[fN]
theorem BT(a b:List Int):strOf (a++b)=strOf a++strOf b:=by simp only[strOf,map_append]
theorem BK:strOf []=[]:=rfl
theorem BL(n:Int)(l:List Int):strOf (n::l)=UInt8.ofNat n.toNat::strOf l:=rfl
theorem Sq(s:ev):strOf (xY s)=s:=by simp only[strOf,xY,map_map];refine Eq.trans (map_congr_left fun b _=>?_) (map_id _);simp
theorem TT(s:ev):(xY s).length=s.length:=by simp only[xY,length_map]
attribute [go_sem] yK R1 fN BT BK BL gD Sq TT
theorem sd{p:Prop}(h:p:=by(repeat' apply And.intro) <;> first|assumption|omega|(intros;omega)|(intro a;simp only[Bool.and_eq_true,Bool.or_eq_true,Bool.not_eq_true',decide_eq_true_eq,decide_eq_false_iff_not]at a;omega)|(simp only[Bool.and_eq_true,Bool.or_eq_true,Bool.not_eq_true',Bool.and_eq_false_iff,Bool.or_eq_false_iff,Bool.not_eq_false',decide_eq_true_eq,decide_eq_false_iff_not];omega)|(intros;simp only[*,Bool.not_false,Bool.not_true,Bool.and_self,Bool.or_self,Bool.and_true,Bool.true_and,Bool.and_false,Bool.or_true,Bool.or_false];done)|(simp_all;done)|(simp_all <;> intros <;> omega)|grind):p:=h
theorem St.cell{K:Nat->Prop}{G:List Gh}{H:List Ob}{w:World}(a:St K G H w){o off:Nat}{T:TypeId}{f:List Va}{v':Va}(p:H[o]?=some (.cells T f))(h:∀c v,f[off]?=some v->VR K w.heap G c v->VR K w.heap G c v') :
  St K G (H.set o (.cells T (f.set off v'))) w:=by
 have m:=(List.getElem?_eq_some_iff.1 p).1;refine⟨by simpa using a.len,a.kb,a.gbo,a.ijo,fun i g x q k=>?_,a.tb⟩;by_cases e:i=o
 .subst e;rw[getElem?_set_self m]at k;cases k;obtain⟨b,cs,t,u,r⟩:=a.ob i g _ q p;refine⟨b,cs,t,u,?_⟩;cases l:f[off]? with
  |none=>rwa [set_eq_of_length_le (by rw[List.getElem?_eq_none_iff]at l;exact l)]
  |some v =>
   obtain⟨y,d,n⟩:=r.get off _ l;have:=r.set (h _ _ l n) off
   rwa [show cs.set off y=cs by
    apply ext_getElem?;intro j;by_cases s:off=j
    .subst s;rw[getElem?_set_self (List.getElem?_eq_some_iff.1 d).1,d]
    .rw[getElem?_set_ne s]]at this
 .rw[getElem?_set_ne (Ne.symm e)]at k;exact a.ob i g x q k
theorem Does.np{P:Program}{f:FuncId}{args:List Va}{T:TypeId}{vs d:List Va}{X Y:List Ob}{v:Va}
  (D:Does P f args (.cells T (.nil::vs)::X) fun r Z=>r=v/\Z=.cells T (.ptr 0 0::d)::Y)
  (H:Does P f args (.cells T (.ptr 0 0::vs)::X) fun r Z=>r=v/\Z=.cells T (.ptr 0 0::d)::Y) :
  Does P f args (.cells T (.np 0::vs)::X) fun r Z=>r=v/\Z=.cells T (.np 0::d)::Y:=by
 refine⟨D.1,fun K G w vals m u=>?_⟩;have n:∀{e:Ending} {h:World},(∃c r X' j k,e=.returned c/\(r=v/\X'=.cells T (.ptr 0 0::d)::Y)/\Ext (eI (true::kinds X)) K G w j k h/\St j k X' h/\VR j h.heap k c r/\gg (eI (true::kinds X)) X') ->
   ∃c r X' j k,e=.returned c/\(r=v/\X'=.cells T (.np 0::d)::Y)/\Ext (eI (true::kinds X)) K G w j k h/\St j k X' h/\VR j h.heap k c r/\gg (eI (true::kinds X)) X':=by
  rintro e h ⟨c,r,X',j,k,I,⟨J,rfl⟩,L,M,N,O⟩;refine⟨c,r,_,j,k,I,⟨J,rfl⟩,L,?_,N,fun i hi=>?_⟩
  .have:=M.cell (o:=0) (off:=0) (v':=.np 0) rfl (fun c v u Q=>by cases u;simp only[VR]at *;exact .inr Q);simpa using this
  .obtain⟨x,y,R⟩:=O i hi;cases i with
   |zero=>exact⟨_,rfl,rfl⟩
   |succ i=>exact⟨x,by simpa using y,R⟩
 -- the address
 have l:=m.len;have S:∃g,G[0]?=some g:=by
  have:0<G.length:=by rw[l];simp
  exact⟨_,getElem?_eq_getElem this⟩
 obtain⟨g,E⟩:=S;obtain⟨b,cs,U,V,F⟩:=m.ob 0 g _ E rfl;simp only[VRs]at F;obtain⟨z,p,rfl,a,q⟩:=F;have s:∀A,VR K w.heap G z A->St K G (.cells T (A::vs)::X) w:=by
  intro A B;refine⟨by simpa using l,m.kb,m.gbo,m.ijo,fun i g' x t y=>?_,m.tb⟩;cases i with
  |zero =>
   obtain rfl:g=g':=Option.some.inj (E.symm.trans t);cases y;exact⟨b,z::p,U,V,by simp only[VRs];exact⟨z,p,rfl,B,q⟩⟩
  |succ i=>exact m.ob (i+1) g' x t (by simpa using y)
 simp only[VR]at a;rcases a with a|a
 .exact(D.2 K G w vals (s .nil (by simp only[VR];exact a)) u).mono fun e h C=>n C
 .exact(H.2 K G w vals (s (.ptr 0 0) (by simp only[VR];exact a)) u).mono fun e h C=>n C
section
variable {α β:Type}
open Classical in
noncomputable def us(p:α->Prop)(k:α->Option β):Option β:=if h:∃z,∀x,p x->k x=some z then some h.choose else none
omit [Tabs] in
theorem HU{p:α->Prop}{k:α->Option β}{z:β}(h:us p k=some z):∀x,p x->k x=some z:=by
 unfold us at h;split at h
 .rename_i a;cases h;exact a.choose_spec
 .cases h
omit [Tabs] in
theorem Np{p:α->Prop}{k:α->Option β}{z:β}(d:∃x,p x)(h:∀x,p x->k x=some z):us p k=some z:=by have a:∃z,∀x,p x->k x=some z:=⟨z,h⟩;unfold us;rw[dif_pos a];obtain⟨x,b⟩:=d;have c:=a.choose_spec x b;rw[h x b]at c;exact c.symm
end
section
variable {P:Program} {kl:List Bool} {n:Nat} {B:Bs} {ops:Array Oper} {K:ey->List Ob->Prop} {E:ey} {H:List Ob}
theorem Rg.any{o:Oper}{l:List Oper}(g:o.guard=none)(h:gx n o.dst){I:Va->List Ob->Prop}
  (d:∀a w,Rel (cx P kl n B) E H a w->∃c w' v b,(execOp a.eval o).run P w=.ok (.value c) w'/\I v b/\RelV (cx P kl n B) E b c v a w')
  (e:∀v b,I v b->fz P kl n B ops K (fv P kl n ops.toList l ⟨eP E o.dst v,b,True⟩)):Rg P kl n B ops (o::l) E H K:=by
 intro i a w Q j k;refine wpList_plain g fun r f=>?_;obtain⟨c,w',v,b,m,p,q⟩:=d a w j;unfold Oper.wp;rw[m];simp only[Oper.upon];exact f _ _ (Rg.run (e v b p) i _ _ _ (q.put o.dst (zY h)) k)
theorem CG{a V:Type}(kd:a->Dt)(e:V->List Dt)(l:List (a×V)):(zH kd e l).length=l.length:=by simp[zH]
end
attribute [go_sem] CG
section
variable {α β S:Type}
noncomputable def forM(f:α->S->(S->Option β)->(S->Option β)->Option β):Nat->List α->S->(S->Option β)->Option β
 |0,_,s,k=>k s
 |n+1,r,s,k=>us (fun j:Nat=>j<r.length) fun j=>match r[j]? with
  |some x=>f x s (fun a=>forM f n (r.eraseIdx j) a k) k
  |none=>none
theorem HF{z:β}{f:α->S->(S->Option β)->(S->Option β)->Option β}{n:Nat}{r:List α}{s:S}{F:S->Option β}(h:forM f n r s F=some z):∃k,(∀s,k s=some z->F s=some z)/\forM f n r s k=some z:=⟨F,fun _ h=>h,h⟩
theorem Hr{z:β}{f:α->S->(S->Option β)->(S->Option β)->Option β}{r:List α}{s:S}{k:S->Option β}(h:forM f r.length r s k=some z)(a:r.length=0):k s=some z:=by rw[a]at h;exact h
theorem HG{z:β}{f:α->S->(S->Option β)->(S->Option β)->Option β}{r:List α}{s:S}{k:S->Option β}(h:forM f r.length r s k=some z){j:Nat}(b:j<r.length) :
  ∃x c,r[j]?=some x/\(∀a,c a=some z->forM f (r.eraseIdx j).length (r.eraseIdx j) a k=some z)/\f x s c k=some z:=by
 obtain⟨n,e⟩:∃n,r.length=n+1:=⟨r.length-1,by omega⟩;rw[e]at h;simp only[forM]at h;have d:=HU h j b;rw[getElem?_eq_getElem b]at d;exact⟨r[j],fun a=>forM f n (r.eraseIdx j) a k,getElem?_eq_getElem b,fun a hs=>by rw[show(r.eraseIdx j).length=n by rw[length_eraseIdx,if_pos b];omega];exact hs,d⟩
def left:List Nat->List Nat->List α->List α
 |b::c,a,x::l=>bif a.contains b then left c a l else x::left c a l
 |_,_,_=>[]
theorem nM:∀(bs:List Nat) (l:List α),l.length=bs.length->left bs [] l=l
 |[],[],_=>rfl
 |b::bs,x::l,h=>by simp only[left,contains_nil,cond_false];rw[nM bs l (by simpa using h)]
 |[],_::_,h=>by simp at h
 |_::_,[],h=>by simp at h
theorem C2{γ:Type}{seen:List Nat}:∀{bs:List Nat} {l:List α} {m:List γ},l.length=bs.length->m.length=bs.length->(left bs seen l).length=(left bs seen m).length
 |[],[],[],_,_=>rfl
 |b::bs,x::l,y::m,h,a=>by
  have c:=C2 (seen:=seen) (bs:=bs) (l:=l) (m:=m) (by simpa using h) (by simpa using a);simp only[left];cases seen.contains b <;> simp[c]
 |[],_::_,_,h,_=>by simp at h
 |[],[],_::_,_,h=>by simp at h
 |_::_,[],_,h,_=>by simp at h
 |_::_,_::_,[],_,h=>by simp at h
theorem nN{γ:Type}(g:α->γ)(seen:List Nat):∀(bs:List Nat) (l:List α),left bs seen (l.map g)=(left bs seen l).map g
 |[],_=>by simp[left]
 |_::_,[]=>by simp[left]
 |b::bs,x::l=>by
  simp only[map_cons,left,nN g seen bs l];cases seen.contains b <;> rfl
theorem PL{γ:Type}(g:γ->Nat)(seen:List Nat):∀(l:List γ),left (l.map g) seen l=l.filter fun x=>!seen.contains (g x)
 |[]=>rfl
 |x::l=>by
  simp only[map_cons,left,PL g seen l,filter_cons];cases seen.contains (g x) <;> rfl
structure mv(bs seen:List Nat)(j p st:Nat):Prop where
 hp:bs[p]?=some st
 er:∀{α:Type} (l:List α),l.length=bs.length->j<(left bs seen l).length/\left bs (seen++[st]) l=(left bs seen l).eraseIdx j/\(left bs seen l)[j]?=l[p]?
theorem nL{b:Nat}{seen:List Nat}:∀{bs:List Nat},b∉bs->∀{α:Type} (l:List α),l.length=bs.length->left bs (seen++[b]) l=left bs seen l
 |[],_,_,l,_=>by cases l <;> rfl
 |c::bs,hb,_,[],h=>by simp at h
 |c::bs,hb,_,x::l,h=>by
  have a:¬ c=b:=fun e=>hb (by simp[e]);have:(seen++[b]).contains c=seen.contains c:=by rw[Bool.eq_iff_iff];simp[a]
  simp only[left,this,nL (fun h=>hb (mem_cons_of_mem _ h)) l (by simpa using h)]
theorem Ek{bs seen:List Nat}(u:bs.Nodup){j:Nat}(h:j<(left bs seen bs).length):∃p st,mv bs seen j p st/\(left bs seen bs)[j]?=some st:=by
 induction bs generalizing j with
 |nil=>simp[left]at h
 |cons b bs t =>
  have d:=nodup_cons.1 u;have f:∀{α:Type} (x:α) (l:List α) (k:List Nat),left (b::bs) k (x::l)=bif k.contains b then left bs k l else x::left bs k l:=fun _ _ _=>rfl;have i:∀{α:Type} (l:List α),l.length=bs.length->left bs (seen++[b]) l=left bs seen l:=fun l c=>nL d.1 l c;cases hs:seen.contains b with
  |true =>
   have g:left (b::bs) seen (b::bs)=left bs seen bs:=by rw[f,hs];rfl
   rw[g]at h;obtain⟨p,st,⟨m,n⟩,o⟩:=t d.2 h;refine⟨p+1,st,⟨by simpa using m,?_⟩,by rw[g];exact o⟩;intro α l c;cases l with
   |nil=>simp at c
   |cons x l =>
    have a:(seen++[st]).contains b=true:=by simp at hs|-;exact .inl hs
    obtain⟨q,r,s⟩:=n l (by simpa using c);rw[f,hs,f,a];exact⟨q,r,by simpa using s⟩
  |false =>
   have g:left (b::bs) seen (b::bs)=b::left bs seen bs:=by rw[f,hs];rfl
   rw[g]at h;cases j with
   |zero =>
    refine⟨0,b,⟨rfl,?_⟩,by rw[g];rfl⟩;intro α l c;cases l with
    |nil=>simp at c
    |cons x l =>
     have a:(seen++[b]).contains b=true:=by simp
     rw[f,hs,f,a];exact⟨by simp,by simp only[cond_true,cond_false,eraseIdx_zero,tail_cons];exact i l (by simpa using c),rfl⟩
   |succ j =>
    obtain⟨p,st,⟨m,n⟩,o⟩:=t d.2 (by simpa using h);refine⟨p+1,st,⟨by simpa using m,?_⟩,by rw[g];simpa using o⟩;intro α l c;cases l with
    |nil=>simp at c
    |cons x l =>
     have hb:b≠st:=fun e=>d.1 (e ▸ mem_of_getElem? m);have a:(seen++[st]).contains b=false:=by simp at hs|-;exact⟨hs,hb⟩
     obtain⟨q,r,s⟩:=n l (by simpa using c);rw[f,hs,f,a];exact⟨by simpa using q,by simp[r],by simpa using s⟩
end
section
variable {P:Program} {kl:List Bool} {n:Nat} {B:Bs} {Q:Qt} {E:ey} {H:List Ob}
theorem Wp.forM{Z S α:Type}{z:Z}{f:α->S->(S->Option Z)->(S->Option Z)->Option Z}{k:S->Option Z}{l:List α}{bs:List Nat}{c:Code}{j:S}(b:List Nat->S->ey)(d:List Nat->S->List Ob)(hb:l.length=bs.length)
  (p:kM kl E H (b [] j) (d [] j)) (hm:Vc.forM f l.length l j k=some z)
  (g:∀(seen:List Nat) (s:S),Vc.forM f (left bs seen l).length (left bs seen l) s k=some z->Wp P kl n B c (zz (fun m o=>∃a i,(left bs a l).length<(left bs seen l).length/\Vc.forM f (left bs a l).length (left bs a l) i k=some z/\kM kl m o (b a i) (d a i)) Q) (b seen s) (d seen s)):Wp P kl n B (.loop c) Q E H:=by
 refine Wp.loop (S:=List Nat×S) (fun t=>b t.1 t.2) (fun t=>d t.1 t.2) (fun t=>Vc.forM f (left bs t.1 l).length (left bs t.1 l) t.2 k=some z) (fun t=>(left bs t.1 l).length) ([],j) p (by simp only[nM bs l hb];exact hm) fun t q=>(g t.1 t.2 q).mono fun e m o h=>?_;cases e with
 |normal=>obtain⟨r,i,u,v,w⟩:=h;exact⟨(r,i),v,u,w⟩
 |_=>exact h
end
theorem MRs.get{K:Nat->Prop}{h:Array Obj}{ag:Bool}:∀{b:List MapEntry} {es:List (Dt×List Dt)} {p:Nat} {x:Dt×List Dt},MRs K h ag b es->es[p]?=some x->∃e,b[p]?=some e/\KR K h e.key x.1/\jy K h ag e.val x.2
 |[],[],p,x,_,c=>by simp at c
 |e::b,y::es,0,x,a,c=>by
  simp only[MRs]at a;simp at c;subst c;refine⟨e,rfl,a.1,?_⟩;cases ag <;> exact a.2.1
 |e::b,y::es,p+1,x,a,c=>by
  simp only[MRs]at a;simpa using MRs.get a.2.2 (by simpa using c)
 |[],_::_,_,_,a,_=>by simp[MRs]at a
 |_::_,[],_,_,a,_=>by simp[MRs]at a
def xQ:Dt->Va
 |.a c=>.agg (c.map .p)
 |.b x=>.p (.b x)
 |.i k x=>.p (.i k x)
 |.s x=>.p (.s x)
 |.l x=>.p (.l x)
 |.r x=>.p (.r x)
theorem KR.va{K:Nat->Prop}{h:Array Obj}{G:List Gh}{v:Value}:∀{d:Dt},KR K h v d->VR K h G v (xQ d)
 |.a f,⟨cs,c,e⟩=>by simp only[xQ,VR];exact⟨cs,c,DRs.vrs e⟩
 |.b _,H=>by simpa only[xQ,VR,KR]using H
 |.i _ _,H=>by simpa only[xQ,VR,KR]using H
 |.s _,H=>by simpa only[xQ,VR,KR]using H
 |.l _,H=>by simpa only[xQ,VR,KR]using H
 |.r _,H=>by simpa only[xQ,VR,KR]using H
attribute [go_sem] xQ
theorem s9{K:Nat->Prop}{h:Array Obj}{G:List Gh}{ag:Bool}{v:Value}{row:List Dt}(b:jy K h ag v row):VR K h G v (gW ag row):=by
 cases ag with
 |true =>
  obtain⟨cs,rfl,a⟩:=b;simp only[gW,cond_true,VR];exact⟨cs,rfl,DRs.vrs a⟩
 |false =>
  obtain⟨d,rfl,a⟩:=b;simp only[gW,cond_false,wD,drop_zero];simpa only[VR]using a
section
variable {K:Nat->Prop} {G:List Gh} {H:List Ob} {w:World}
theorem St.reob(a:St K G H w){o:Nat}{g:Gh}{b:Nat}(c:G[o]?=some g)(hb:g.blk=some b){x:Ob}(d:ObR K w.heap G g x):St K G (H.set o x) w :=
 a.modA c hb rfl (fun _ _=>rfl) d
end
theorem nc{P:Program}(w:World)(p:TypeId){c d cl:Nat}{seen:List Nat}{a:Array MapEntry}(l:w.heap[c]?=some (.mapIter (some d) cl seen.toArray cl))(m:w.heap[d]?=some (.map a cl))
  (b:(!seen.toArray.isEmpty&&!a.isEmpty&&a.all (fun e=>decide (e.born≥cl)))=false)
  (f:(a.filter fun e=>!seen.toArray.contains e.born).filter (fun e=>decide (e.born<cl))=a.filter fun e=>!seen.contains e.born)
  (g:(a.filter fun e=>!seen.toArray.contains e.born).filter (fun e=>decide (e.born≥cl))=#[]) :
  ((a.filter fun e=>!seen.contains e.born).size=0/\(Instr.next (.pointer (some ⟨c,0,none⟩)) false p).run P w=.ok (.tuple #[.bool false]) w) ∨
  ∃(j:Nat) (n:j<(a.filter fun e=>!seen.contains e.born).size) (w1:World),(w1=w∨w1=w.drew) /\
   (Instr.next (.pointer (some ⟨c,0,none⟩)) false p).run P w=.ok (.tuple #[.bool true,(a.filter fun e=>!seen.contains e.born)[j].key,(a.filter fun e=>!seen.contains e.born)[j].val])
    { w1 with heap:=w1.heap.setIfInBounds c (.mapIter (some d) cl (seen++[(a.filter fun e=>!seen.contains e.born)[j].born]).toArray cl) }:=by
 have s:c<w.heap.size:=(Array.getElem?_eq_some_iff.1 l).1;simp only[Instr.next,getObj,Sem.run_bind,Sem.run,l,m,Result.andThen,b,Bool.false_eq_true,if_false,f,g,Array.append_empty];generalize (a.filter fun e=>!seen.contains e.born)=L;by_cases q:L.size=0
 .left;have:L=#[]:=Array.eq_empty_of_size_eq_zero q;subst this;refine⟨rfl,?_⟩;simp[choose,Sem.run,Question.forced]
 .right;have o:L.isEmpty=false:=by simp[Array.isEmpty,q]
  simp only[o,Bool.false_eq_true,if_false,Array.empty_append,Array.size_map];have hch:∃(j:Nat) (w1:World),j<L.size/\(w1=w∨w1=w.drew)/\(choose (Question.mapNext L.size)).run P w=.ok j w1:=by
   by_cases r:L.size<=1
   .exact⟨0,w,by omega,.inl rfl,by simp[choose,Sem.run,Question.forced,r]⟩
   .exact⟨_,w.drew,Nat.mod_lt _ (by omega),.inr rfl,by
     simp only[choose,Sem.run,Question.forced,decide_eq_true_eq,r,if_false,Question.cut];rfl⟩
  obtain⟨j,w1,n,h,i⟩:=hch;refine⟨j,n,w1,h,?_⟩;have k:(setObj c (.mapIter (some d) cl (seen.toArray.push L[j].born) cl)).run P w1=.ok () { w1 with heap:=w1.heap.setIfInBounds c (.mapIter (some d) cl (seen.toArray.push L[j].born) cl) }:=by
   have t:w1.heap[c]?=some (.mapIter (some d) cl seen.toArray cl):=by rcases h with rfl|rfl <;> exact l
   simp[setObj,Sem.run,t]
  simp only[i,Array.getElem?_map,Array.getElem?_eq_getElem n,Option.map_some,Sem.run_bind,k,Result.andThen];simp
section
variable {P:Program} {kl:List Bool} {n:Nat} {B:Bs} {ops:Array Oper} {K:ey->List Ob->Prop} {E:ey} {H:List Ob}
theorem Rg.range{o:Oper}{l:List Oper}{t:TypeId}{x:Operand}{i:Nat}{ag:Bool}{es:List (Dt×List Dt)}{kt et:TypeId}(Z:Is o.op (.range t x))(L:Is o.guard none)(hd:gx n o.dst)(hk:opOk true E x)(hx:Is (opnd E x) (.mp i))(ht:Is (zB P t) (.map kt et))(hi:Is (eD H i) (.mp ag es))
  (s:∀(bs:List Nat) (cl:Nat),es.length=bs.length->bs.Nodup->(∀b∈bs,b<cl)->fz P kl n B ops K (fv P kl n ops.toList l ⟨eP E o.dst (.ptr H.length 0),H.set i (.mpb ag es bs cl)++[.it i cl []],True⟩)):Rg P kl n B ops (o::l) E H K:=by
 unfold Is at *;refine Rg.any L hd (I:=fun v W=>v=.ptr H.length 0/\∃bs cl,es.length=bs.length/\bs.Nodup/\(∀b∈bs,b<cl)/\W=H.set i (.mpb ag es bs cl)++[.it i cl []]) ?_ ?_;rotate_left
 .rintro v W ⟨rfl,bs,cl,h1,h2,h3,rfl⟩;exact s bs cl h1 h2 h3
 intro a w hR;obtain⟨Kk,G,hX,J,X,M,hn,N⟩:=hR;have k:=zG X rfl x hk;rw[hx]at k;simp only[VR]at k;obtain⟨g,b,d,f,ha⟩:=k;have O:=zu hi (by simp);obtain⟨u,p,h,c,z,A,C,D⟩:=J.ob i g _ d O;obtain rfl:p=b:=by rw[f]at z;exact(Option.some.inj z).symm
 obtain⟨ti,Q,R⟩:=zL ht (by simp);have hu:=FP Q R;have j:=(MapKept.stamped_iff h c).1 D;have S:i<G.length:=(List.getElem?_eq_some_iff.1 d).1;have T:=J.reob d f (x:=.mpb ag es (h.toList.map (·.born)) c) ⟨u,p,h,f,A,C,D,rfl⟩;have U:=T.push (o:=.mapIter (some p) c #[] c) (x:=.it i c []) (sv:=undef) ⟨w.heap.size,p,g,rfl,by rw[getElem?_append_left S];exact d,f,heap_alloc_new w _⟩;have hM:=Mn.alloc J.kb (.mapIter (some p) c #[] c);have hG:∀(o:Nat) (g:Gh),G[o]?=some g->(G++[⟨some w.heap.size,undef,[]⟩])[o]?=some g:=fun o g L=>Mg.push G _ o g rfl L;refine⟨.pointer (some ⟨w.heap.size,0,none⟩),w.alloc (.mapIter (some p) c #[] c),.ptr H.length 0,H.set i (.mpb ag es (h.toList.map (·.born)) c)++[.it i c []],?_,⟨rfl,_,c,by rw[length_map];exact C.length.symm,j.2.1,by simpa using j.1,rfl⟩,?_⟩
 .have F:(Instr.range t (a.eval x)).run P w=.ok (.pointer (some ⟨w.heap.size,0,none⟩)) (w.alloc (.mapIter (some p) c #[] c)):=by
   rw[ha];simp[Instr.range,run_underlying hu,MapKept.run_getObj_map A,Result.andThen]
  obtain⟨dst,op,ty,pos,af,gd⟩:=o;cases Z;exact ue F
 .refine⟨Kk,G++[⟨some w.heap.size,undef,[]⟩],hX.trans (Ext.push _ _ undef),U,fun m=>VR.grow hM hG _ _ (X m),M,hn,fun q hq=>?_,?_⟩
  .obtain⟨y,Y,V⟩:=N q hq;have r:=(List.getElem?_eq_some_iff.1 Y).1;by_cases e:q=i
   .subst e;exact⟨_,by rw[getElem?_append_left (by simpa using r)];exact getElem?_set_self r,rfl⟩
   .exact⟨y,by rw[getElem?_append_left (by simpa using r),getElem?_set_ne (Ne.symm e)];exact Y,V⟩
  .simp only[VR];refine⟨⟨some w.heap.size,undef,[]⟩,w.heap.size,?_,rfl,rfl⟩;rw[<-J.len,getElem?_append_right (Nat.le_refl _)];simp
theorem Rg.next{o:Oper}{l:List Oper}{x:Operand}{q i cl:Nat}{ag:Bool}{es:List (Dt×List Dt)}{bs seen:List Nat}(ho:Is o.op (.next x false))(hg:Is o.guard none)(hd:gx n o.dst)(hk:opOk true E x)(hx:Is (opnd E x) (.ptr q 0))(hq:Is (eD H q) (.it i cl seen))(hi:Is (eD H i) (.mpb ag es bs cl))
  (T:eI kl q=false) (hb1:es.length=bs.length) (hb2:bs.Nodup) (F:∀b∈bs,b<cl)
  (he:(left bs seen bs).length=0->fz P kl n B ops K (fv P kl n ops.toList l ⟨eP E o.dst (.tup [.p (.b false)]),H,True⟩))
  (hs:∀(j p f:Nat),mv bs seen j p f->fz P kl n B ops K (fv P kl n ops.toList l ⟨eP E o.dst (.tup [.p (.b true),.top,.top]),H.set q (.it i cl (seen++[f])),True⟩)):Rg P kl n B ops (o::l) E H K:=by
 unfold Is at *;refine Rg.any hg hd (I:=fun v H'=>((left bs seen bs).length=0/\v=.tup [.p (.b false)]/\H'=H)∨∃j p f,mv bs seen j p f/\v=.tup [.p (.b true),.top,.top]/\H'=H.set q (.it i cl (seen++[f]))) ?_ ?_;rotate_left
 .rintro v H' (⟨h1,rfl,rfl⟩|⟨j,p,f,h1,rfl,rfl⟩)
  .exact he h1
  .exact hs j p f h1
 intro a w hR;obtain⟨Kk,G,hX,U,hE,V,hn,W⟩:=hR;have J:=zG hE rfl x hk;rw[hx]at J;simp only[VR]at J;obtain⟨gq,bq,u,k,ha⟩:=J;have X:=zu hq (by simp);have L:=zu hi (by simp);obtain⟨g,bm,gm,e1,e2,e3,e4⟩:=U.ob q gq _ u X;obtain rfl:g=bq:=by rw[k]at e1;exact(Option.some.inj e1).symm
 obtain⟨hlim,Y,d,Z,hbm,hmr,hst,M⟩:=U.ob i gm _ e2 L;obtain rfl:Y=bm:=by rw[e3]at Z;exact(Option.some.inj Z).symm
 subst M;have hlen:es.length=d.toList.length:=by simpa using hb1
 have A:(!seen.toArray.isEmpty&&!d.isEmpty&&d.all (fun e=>decide (e.born≥cl)))=false:=by
  cases hme:d.isEmpty with
  |true=>simp
  |false =>
   have:d.all (fun e=>decide (e.born≥cl))=false:=by
    rw[Array.all_eq_false'];have hne:d.toList≠[]:=by intro N;have:d=#[]:=Array.toList_eq_nil_iff.1 N;subst this;simp at hme
    obtain⟨N,r0,r⟩:=exists_cons_of_ne_nil hne;refine⟨N,by rw[<-Array.mem_toList_iff,r];simp,?_⟩;have:=F N.born (by simp[r]);simp;omega
   simp[this]
 have s:∀y:Nat,seen.toArray.contains y=seen.contains y:=by intro y;simp
 have hold:(d.filter fun e=>!seen.toArray.contains e.born).filter (fun e=>decide (e.born<cl))=d.filter fun e=>!seen.contains e.born:=by
  apply Array.toList_inj.1;simp only[Array.toList_filter,s];rw[filter_eq_self];intro e he;have:=(mem_filter.1 he).1;simpa using F e.born (by simp;exact⟨e,by simpa using this,rfl⟩)
 have hnew:(d.filter fun e=>!seen.toArray.contains e.born).filter (fun e=>decide (e.born≥cl))=#[]:=by
  apply Array.toList_inj.1;simp only[Array.toList_filter,s];rw[filter_eq_nil_iff.2];intro e he;have:=(mem_filter.1 he).1;have:=F e.born (by simp;exact⟨e,by simpa using this,rfl⟩);simp;omega
 have hlf:(left (d.toList.map (·.born)) seen (d.toList.map (·.born))).length=(d.filter fun e=>!seen.contains e.born).size:=by rw[C2 (m:=d.toList) (by simp) (by simp),PL,<-Array.toList_filter,Array.length_toList]
 have hrr:=nc (P:=P) w o.type e4 hbm A hold hnew;have N:∀{c:Value} {w':World},(Instr.next (a.eval x) false o.type).run P w=.ok c w'->(execOp a.eval o).run P w=.ok (.value c) w':=by intro c w' R;obtain⟨dst,op,ty,pos,af,gd⟩:=o;cases ho;exact ue R
 rw[<-ha]at hrr;rcases hrr with⟨h0,R⟩|⟨j,hj,C,t,R⟩
 .refine⟨_,_,.tup [.p (.b false)],H,N R,.inl ⟨by rw[hlf];exact h0,rfl,rfl⟩,Kk,G,hX,U,hE,V,hn,W,?_⟩;simp only[VR,VRs,DR];exact⟨[.bool false],rfl,_,_,rfl,rfl,rfl⟩
 .obtain⟨p,f,hok,D⟩:=Ek hb2 (by rw[hlf];exact hj)
  have hstb:f=(d.filter fun e=>!seen.contains e.born)[j].born:=by
   rw[nN (fun e:MapEntry=>e.born),PL,<-Array.toList_filter,getElem?_map,Array.getElem?_toList,Array.getElem?_eq_getElem hj]at D;simpa using D.symm
  rw[<-hstb]at R;have hqb:g<w.heap.size:=(Array.getElem?_eq_some_iff.1 e4).1;have O:C.heap.size=w.heap.size:=by rcases t with rfl|rfl <;> rfl
  have hhp:C.heap=w.heap:=by rcases t with rfl|rfl <;> rfl
  have Q:∀y,y≠g->({ C with heap:=C.heap.setIfInBounds g (.mapIter (some Y) cl (seen++[f]).toArray cl) }:World).heap[y]?=w.heap[y]?:=fun y S=>by simp[Ne.symm S,hhp]
  have hqi:q≠i:=fun e=>by subst e;rw[X]at L;cases L
  have hMn:Mn Kk Kk w.heap ({ C with heap:=C.heap.setIfInBounds g (.mapIter (some Y) cl (seen++[f]).toArray cl) }:World).heap:=⟨fun _ h=>h,fun y S=>Q y fun e=>(U.gb q gq _ u k).2 (e ▸ S)⟩;have hS1:=U.modA (x:=.it i cl (seen++[f])) u k (w':={ C with heap:=C.heap.setIfInBounds g (.mapIter (some Y) cl (seen++[f]).toArray cl) }) (by simp[O]) Q ⟨g,Y,gm,k,e2,e3,by simp[O,hqb]⟩;refine⟨_,_,.tup [.p (.b true),.top,.top],H.set q (.it i cl (seen++[f])),N R,.inr ⟨j,p,f,hok,rfl,rfl⟩,Kk,G,hX.trans (Ext.modA _ u k ?_ ?_ ?_ (by simp[O]) Q),hS1,fun m=>VR.grow hMn (fun _ _ h=>h) _ _ (hE m),V,hn,fun y S=>?_,?_⟩
  .rcases t with rfl|rfl <;> rfl
  .rcases t with rfl|rfl
   .exact⟨rfl,fun _=>Nat.le_refl _⟩
   .exact⟨rfl,fun _=>Nat.le_succ _⟩
  .rcases t with rfl|rfl <;> rfl
  .have hyq:y≠q:=fun e=>by subst e;rw[show eI kl y=true from S]at T;cases T
   obtain⟨z,hz,hkz⟩:=W y S;exact⟨z,by rw[getElem?_set_ne (Ne.symm hyq)];exact hz,hkz⟩
  .simp only[VR,VRs,DR];exact⟨[.bool true,_,_],rfl,_,_,rfl,rfl,_,_,rfl,trivial,_,_,rfl,trivial,rfl⟩
theorem Rg.entry{o:Oper}{l:List Oper}{x:Operand}{q i cl p st:Nat}{ag:Bool}{es:List (Dt×List Dt)}{bs seen:List Nat}{d:Dt}{row:List Dt}(S:Is o.op (.entry x))(T:Is o.guard none)(U:gx n o.dst)(V:opOk true E x)(W:Is (opnd E x) (.ptr q 0))(X:Is (eD H q) (.it i cl (seen++[st])))(hi:Is (eD H i) (.mpb ag es bs cl))
  (k:bs.Nodup) (M:bs[p]?=some st) (he:es[p]?=some (d,row))
  (f:fz P kl n B ops K (fv P kl n ops.toList l ⟨eP E o.dst (.tup [xQ d,gW ag row]),H,True⟩)):Rg P kl n B ops (o::l) E H K:=by
 unfold Is at *;refine Rg.any T U (I:=fun v N=>v=.tup [xQ d,gW ag row]/\N=H) ?_ (by rintro v N ⟨rfl,rfl⟩;exact f);intro a w Y;obtain⟨Kk,G,Z,m,O,r,hn,s⟩:=Y;have c:=zG O rfl x V;rw[W]at c;simp only[VR]at c;obtain⟨gq,bq,t,u,ha⟩:=c;have y:=zu X (by simp);have z:=zu hi (by simp);obtain⟨A,bm,gm,Q,e2,e3,e4⟩:=m.ob q gq _ t y;obtain rfl:A=bq:=by rw[u]at Q;exact(Option.some.inj Q).symm
 obtain⟨R,b',g,h,C,D,hst,b⟩:=m.ob i gm _ e2 z;obtain rfl:b'=bm:=by rw[e3]at h;exact(Option.some.inj h).symm
 obtain⟨e,j,F,J⟩:=D.get he;have L:e.born=st:=by
  rw[<-b,getElem?_map,j]at M;simpa using M
 have hf:g.find? (·.born == st)=some e:=by rw[<-Array.find?_toList,<-L];exact find_born e g.toList (by rw[b];exact k) (mem_of_getElem? j)
 have hr:(Instr.entry (a.eval x)).run P w=.ok (.tuple #[e.key,e.val]) w:=by
  rw[ha];have:(seen++[st]).toArray.back?=some st:=by simp
  simp only[Instr.entry,getObj,Sem.run_bind,Sem.run,e4,C,Result.andThen,this,bne_self_eq_false,Bool.false_eq_true,if_false,hf];rfl
 refine⟨.tuple #[e.key,e.val],w,_,H,?_,⟨rfl,rfl⟩,Kk,G,Z,m,O,r,hn,s,?_⟩
 .obtain⟨dst,op,ty,pos,af,gd⟩:=o;cases S;exact ue hr
 .simp only[VR,VRs];exact⟨[e.key,e.val],rfl,_,_,rfl,F.va,_,_,rfl,s9 J,rfl⟩
end
section
variable {P:Program} {kl:List Bool} {n:Nat} {B:Bs} {Q:Qt} {E:ey} {H:List Ob}
theorem dr{c:Code}(i q:Nat){ag:Bool}{es:List (Dt×List Dt)}{bs seen:List Nat}{cl:Nat}(hi:Is (eD H i) (.mpb ag es bs cl))(A:Is (eD H q) (.it i cl seen))(s:eI kl q=false)
  (C:Wp P kl n B c Q E ((H.set i (.mp ag es)).set q .gone)):Wp P kl n B c Q E H:=by
 unfold Is at *;intro D a w F;obtain⟨K,G,I,h,J,L,M,r6⟩:=F;have j:=zu hi (by simp);have k:=zu A (by simp);obtain⟨V,l,m⟩:=h.ghost j;obtain⟨d,b,o,t,N,O,R,W⟩:=m;obtain⟨X,p,f⟩:=h.ghost k;obtain⟨Y,Z,gm,S,q2⟩:=f;have T:=h.reob l t (x:=.mp ag es) ⟨d,b,o,cl,t,N,O,R⟩;have U:=T.reob p S (x:=.gone) trivial;refine C D a w ⟨K,G,I,U,J,L,M,fun y u=>?_⟩;have g:y≠q:=fun e=>by subst e;rw[show eI kl y=true from u]at s;cases s
 obtain⟨z,v,r⟩:=r6 y u;by_cases e:y=i
 .subst e;exact⟨_,by rw[getElem?_set_ne (Ne.symm g)];exact getElem?_set_self (List.getElem?_eq_some_iff.1 v).1,rfl⟩
 .exact⟨z,by rw[getElem?_set_ne (Ne.symm g),getElem?_set_ne (Ne.symm e)];exact v,r⟩
end
section
variable {α β S:Type}
theorem ya{z:β}{f:α->S->(S->Option β)->(S->Option β)->Option β}{k:S->Option β}{c:S}{bs seen:List Nat}{l:List α}{j p a:Nat}(b:mv bs seen j p a)(hb:l.length=bs.length)
  (h:forM f ((left bs seen l).eraseIdx j).length ((left bs seen l).eraseIdx j) c k=some z):(left bs (seen++[a]) l).length<(left bs seen l).length/\forM f (left bs (seen++[a]) l).length (left bs (seen++[a]) l) c k=some z:=by
 obtain⟨d,e,_⟩:=b.er l hb;rw[e];exact⟨by rw[length_eraseIdx,if_pos d];omega,h⟩
theorem Ho{a V:Type}{kd:a->Dt}{e:V->List Dt}{l:List (a×V)}{p:Nat}{x:a×V}(h:l[p]?=some x):(zH kd e l)[p]?=some (kd x.1,e x.2):=by simp[zH,h]
theorem G9{a V:Type}{kd:a->Dt}{e:V->List Dt}{l:List (a×V)}{bs:List Nat}(h:(zH kd e l).length=bs.length):l.length=bs.length:=by rw[<-h,CG]
end
section
variable {P:Program} {kl:List Bool} {n:Nat} {B:Bs} {ops:Array Oper} {K:ey->List Ob->Prop} {E:ey} {H:List Ob}
theorem dI{o:Oper}{l:List Oper}{t u:TypeId}{x:Operand}{rows:List (List Dt)}{e:TypeId}{esz eb:Nat}{ez:List Value}(F:Is o.op (.binOp .eql t x (.const (.slice none 0 0)) u))(J:Is o.guard none)(L:gx n o.dst)(M:opOk true E x)(N:Is (opnd E x) (.p (.l rows)))(O:Is (zB P t) (.slice e esz eb ez))
  (g:∀b:Bool,(b=true->rows=[])->fz P kl n B ops K (fv P kl n ops.toList l ⟨eP E o.dst (.p (.b b)),H,True⟩)):Rg P kl n B ops (o::l) E H K:=by
 unfold Is at *;refine Rg.any J L (I:=fun v C=>C=H/\∃b:Bool,(b=true->rows=[])/\v=.p (.b b)) ?_ (by rintro v C ⟨rfl,b,i,rfl⟩;exact g b i);intro a w Q;obtain⟨Kk,G,R,S,D,k,U,q⟩:=Q;have f:=zG D rfl x M;rw[N]at f;simp only[VR,DR]at f;obtain⟨ti,r,s⟩:=zL O (by simp);obtain⟨V,_⟩:=jh r s;have y:∃d m c,a.eval x=.slice d m c/\(d.isNone=true->rows=[]):=by
  rcases f with⟨⟨d,i⟩,W⟩|⟨b,X,c,cs,T,fr,sz,vs,i,_⟩
  .exact⟨d,0,0,i,fun _=>W⟩
  .exact⟨_,_,_,i,fun h=>by simp at h⟩
 obtain⟨d,m,c,z,j⟩:=y;refine⟨.bool d.isNone,w,_,H,?_,⟨rfl,d.isNone,j,rfl⟩,Kk,G,R,S,D,k,U,q,by simp only[VR,DR]⟩;have Y:(binOp .eql t (.slice d m c) (.slice none 0 0)).run P w=.ok (.bool d.isNone) w:=Lib.run_eql_slice_nil w t e d m c 0 0 V;obtain⟨Z,op,ty,pos,af,gd⟩:=o;cases F;have A:=Ts (P:=P) (w:=w) .eql t x (.const (.slice none 0 0)) (.slice d m c) (.slice none 0 0) (by simp) (by simp);have:(do eqGuard .eql t x (.const (.slice none 0 0)) (a.eval x) (a.eval (.const (.slice none 0 0)));binOp .eql t (a.eval x) (a.eval (.const (.slice none 0 0))):Sem Value).run P w=.ok (.bool d.isNone) w:=by
  rw[z];show(do eqGuard .eql t x (.const (.slice none 0 0)) (.slice d m c) (.slice none 0 0);binOp .eql t (.slice d m c) (.slice none 0 0):Sem Value).run P w=_;simp only[Sem.run_bind,A,Result.andThen_ok,Y]
 exact ue this
theorem Rg.clear{o:Oper}{l:List Oper}{c:Call}{t:TypeId}{x:Operand}{i sz a m:Nat}{T:TypeId}{rows:List (List Dt)}{e:TypeId}{eb:Nat}{ez:List Value}{z:List Dt}(ho:Is o.op (.call c))(hc:Is c.callee (.builtin .clear))(hca:Is c.args.toList [x])(hct:Is c.argTypes.toList [t])(hg:Is o.guard none)(hd:gx n o.dst)(hk:opOk true E x)
  (hx:Is (opnd E x) (.vw i sz a m)) (ht:Is (zB P t) (.slice e sz eb ez)) {fx:Bool} (hi:Is (sC H i) (some (T,sz,rows,fx))) (hz:Is (fe (ez.map cv)) (some z)) (hzk:pn ez) (U:ez.length=sz) (hs0:0<sz)
  (V:fz P kl n B ops K (fv P kl n ops.toList l ⟨eP E o.dst .top,H.set i (wc fx T sz (rows.take a++List.replicate m z++rows.drop (a+m))),True⟩)):Rg P kl n B ops (o::l) E H K:=by
 unfold Is at *;refine Rg.any hg hd (I:=fun v W=>v=.top/\W=H.set i (wc fx T sz (rows.take a++List.replicate m z++rows.drop (a+m)))) ?_ (by rintro v W ⟨rfl,rfl⟩;exact V);intro ac w hR;obtain⟨Kk,G,hX,hS,hE,X,hn,Y⟩:=hR;have M:=zG hE rfl x hk;rw[hx]at M;simp only[VR]at M;obtain⟨g,ad,N,cap,A,Z,hle,ad',cap',hax,hmc,hcc,hpos⟩:=M;obtain⟨ti,ht',hk'⟩:=zL ht (by simp);obtain⟨hu,⟨inf,hi1,hi2,hi3⟩,C⟩:=jh ht' hk';have D:=Pw hi;obtain⟨hlim,xs,hxs,hh⟩:=hS.bufOb hi A;have hzi:∃L,inf.zero=some L/\L.cells.toList=ez:=by unfold xR at C;rw[hi1]at C;simp at C;exact C
 obtain⟨L,hzv,O⟩:=hzi;have hrl:rows.length=N:=by
  rcases hh with⟨⟨a0,Q⟩,rfl,_⟩|⟨b,cp,d,fr,Q,_⟩
  .rw[Z]at Q;cases Q;rfl
  .rw[Z]at Q;cases Q;rfl
 have F:∀(w':World),(Builtin.clear_ #[t] o.type #[ac.eval x]).run P w=.ok (.tuple #[]) w'->RelV (cx P kl n B) E (H.set i (wc fx T sz (rows.take a++List.replicate m z++rows.drop (a+m)))) (.tuple #[]) .top ac w'->∃c' w' v W,(execOp ac.eval o).run P w=.ok (.value c') w'/\(v=.top/\W=H.set i (wc fx T sz (rows.take a++List.replicate m z++rows.drop (a+m))))/\RelV (cx P kl n B) E W c' v ac w':=by
  intro w' hr hRV;refine⟨_,w',_,_,?_,⟨rfl,rfl⟩,hRV⟩;obtain⟨callee,args,f⟩:=c;obtain⟨dst,op,ty,pos,af,gd⟩:=o;cases ho;simp only at hc hca hct hr;subst hc;have ha:args=#[x]:=by cases args;simp_all
  have hat:f=#[t]:=by cases f;simp_all
  subst ha;subst hat;simp[execOp,resolve,invoke,builtin,hr]
 rcases Nat.eq_zero_or_pos m with rfl|hm
 .have R:rows.take a++List.replicate 0 z++rows.drop (a+0)=rows:=by simp
  rw[R]at F|-;have hset:H.set i (wc fx T sz rows)=H:=by
   apply ext_getElem?;intro j;by_cases e:j=i
   .subst e;rw[getElem?_set_self (List.getElem?_eq_some_iff.1 D).1,D]
   .rw[getElem?_set_ne (Ne.symm e)]
  rw[hset]at F|-;refine F w ?_ ⟨Kk,G,hX,hS,hE,X,hn,Y,by simp only[VR]⟩;rw[hax];cases ad' <;> simp[Builtin.clear_,run_underlying hu]
 .obtain⟨b,hgb,had,had'⟩:=hpos (by omega);rcases hh with⟨_,_,h0⟩|⟨u,cp,d,fr,Q,S,h3,h4,h5,h6,h7,h8⟩
  .rw[hgb]at h0;cases h0
  obtain rfl:u=b:=by rw[hgb]at S;exact(Option.some.inj S).symm
  have hzsz:L.cells.size=sz:=by rw[<-U,<-O];simp
  have r:(Builtin.zeroCells L.cells m).toList=(List.replicate m ez).flatten:=by
   show(madeCells L.cells (m*L.cells.size)).toList=_;rw[hzsz,HH (by rw[O];exact U) hs0,O]
  have hzd:DRs Kk w.heap ez z:=pj (yz (G:=G) hzk) hz;have hzl':z.length=sz:=by have:=hzd.length;omega
  have k:=DRss.replicate hzd m;rw[hzl']at k;have J:((List.replicate m ez).flatten).length=m*sz:=by have:=k.length;simpa using this
  have hA:a*sz+m*sz<=rows.length*sz:=by rw[<-Nat.add_mul];exact Nat.mul_le_mul_right _ (by omega)
  have hC:rows.length*sz<=d.size:=Nat.le_trans (Nat.mul_le_mul_right _ h5) h7;have hst:=NO (P:=P) u (a*sz) T fr (List.replicate m ez).flatten 0 d w h3 h4 (by omega) k.ones;simp only[Nat.add_zero]at hst;have Cc:xs=d.toList.take (rows.length*sz):=h8.symm;have hcl:(ft d.toList (a*sz) (List.replicate m ez).flatten).length=d.size:=by rw[Gw _ _ _ (by rw[J];simpa using (by omega:a*sz+m*sz<=d.size))];simp
  have p:(rows.take a++List.replicate m z++rows.drop (a+m)).length=rows.length:=by simp;omega
  refine F (w.setRow u (ft d.toList (a*sz) (List.replicate m ez).flatten).toArray) ?_ ?_
  .rw[hax,had'];have hm0:m≠0:=by omega
   have hzr:(zeroValue e).run P w=.ok L w:=by simp[zeroValue,typeInfo,hi1,hzv]
   obtain⟨m',rfl⟩:∃m',m=m'+1:=⟨m-1,by omega⟩;simp[Builtin.clear_,run_underlying hu,hzr,r,hst]
  .have s:∀y,y≠u->(w.setRow u (ft d.toList (a*sz) (List.replicate m ez).flatten).toArray).heap[y]?=w.heap[y]?:=fun y hy=>setRow_other w u y _ hy;have hMn:Mn Kk Kk w.heap (w.setRow u (ft d.toList (a*sz) (List.replicate m ez).flatten).toArray).heap:=⟨fun _ h=>h,fun y hy=>s y fun e=>(hS.gb i g u A S).2 (e ▸ hy)⟩;refine⟨Kk,G,hX.trans (Ext.modA _ A S rfl ⟨rfl,fun _=>Nat.le_refl _⟩ rfl (setRow_size _ _ _) s),hS.modA A S (setRow_size _ _ _) s (lv ▸ ⟨by rw[p];exact hlim,xs.take (a*sz)++(List.replicate m ez).flatten++xs.drop ((a+m)*sz),?_,.inr ⟨u,cp,_,fr,by rw[p];exact Q,S,setRow_heap w u d _ T fr h3,?_,by rw[p];exact h5,h6,?_,?_⟩⟩),fun q=>VR.grow hMn (fun _ _ h=>h) _ _ (hE q),X,hn,fun y hy=>?_,by simp only[VR]⟩
   .exact DRss.mono hMn _ _ _ (((DRss.take hxs a).append k).append (OT hxs))
   .simp only[size_toArray,hcl];exact h4
   .simp only[size_toArray,hcl];exact h7
   .rw[p,ui _ _ _ (by rw[J];simpa using (by omega:a*sz+m*sz<=d.size)),J,Cc];have e1:((d.toList.take (a*sz)++(List.replicate m ez).flatten)).length=a*sz+m*sz:=by rw[length_append,J,length_take];simp;omega
    show(d.toList.take (a*sz)++(List.replicate m ez).flatten++d.toList.drop (a*sz+m*sz)).take (rows.length*sz)=_;rw[take_append,take_of_length_le (by omega),e1,take_take,Nat.min_eq_left (by omega),Nat.add_mul,drop_take]
   .obtain⟨q,hq,hkq⟩:=Y y hy;by_cases hyi:y=i
    .subst hyi;rw[D]at hq;cases hq;exact⟨_,getElem?_set_self (List.getElem?_eq_some_iff.1 D).1,by cases fx <;> first|rfl|exact hkq⟩
    .exact⟨q,by rw[getElem?_set_ne (Ne.symm hyi)];exact hq,hkq⟩
end
def sortS(l:List (List UInt8)):List (List UInt8):=l.mergeSort fun x y=>decide (x<=y)
theorem Sc(l:List (List UInt8)):(sortS l).length=l.length:=by unfold sortS;simp
section
variable {P:Program} {kl:List Bool} {n:Nat} {B:Bs} {Q:Qt} {E:ey} {H:List Ob}
theorem dJ{c:Code}(k o:Nat){T:TypeId}{sz:Nat}{rows:List (List Dt)}(t:Is (eR E k) (.buf o)){fx:Bool}(u:Is (sC H o) (some (T,sz,rows,fx)))(v:Wp P kl n B c Q ((k,.vw o sz 0 rows.length)::E) H):Wp P kl n B c Q E H:=by
 unfold Is at *;intro x a w y;obtain⟨K,G,z,l,p,A,C,r6⟩:=y;refine v x a w ⟨K,G,z,l,fun m=>?_,A,C,r6⟩;simp only[eR];split
 .rename_i e;subst e;have h:=p k;rw[t]at h;simp only[VR]at h|-;obtain⟨g,i,j,O,R,q,D⟩:=h;obtain⟨r,S,F,I⟩:=l.bufOb u i;rw[j];rcases I with⟨⟨s,d⟩,rfl,J⟩|⟨b,f,L,U,d,M,J,V,N,W,X,Y⟩
  .exact⟨g,s,0,0,i,d,by simp,s,0,d,by simp,by simp,by simp⟩
  .exact⟨g,_,_,f,i,d,by simp,_,f,d,N,by simp,fun _=>⟨b,M,rfl,by simp⟩⟩
 .exact p m
end
section
variable {P:Program} {kl:List Bool} {n:Nat} {B:Bs} {Q:Qt} {E:ey} {H:List Ob}
theorem Wp.reob{c:Code}(o:Nat){x:Ob}(k:eI kl o=false)(p:∀K G (w:World) g,St K G H w->G[o]?=some g->ObR K w.heap G g x)(l:o<H.length)(q:Wp P kl n B c Q E (H.set o x)):Wp P kl n B c Q E H:=by
 intro r a w s;obtain⟨K,G,t,b,u,v,A,r6⟩:=s;have C:o<G.length:=by rw[b.len];exact l
 have f:St K G (H.set o x) w:=by
  refine⟨by simp[b.len],b.kb,b.gbo,b.ijo,fun i g y m d=>?_,b.tb⟩;by_cases e:i=o
  .subst e;rw[getElem?_set_self l]at d;cases d;exact p K G w g b m
  .rw[getElem?_set_ne (Ne.symm e)]at d;exact b.ob i g y m d
 refine q r a w ⟨K,G,t,f,u,v,A,fun y d=>?_⟩;have h:y≠o:=fun e=>by subst e;rw[show eI kl y=true from d]at k;cases k
 obtain⟨z,D,j⟩:=r6 y d;exact⟨z,by rw[getElem?_set_ne (Ne.symm h)];exact D,j⟩
theorem xl{K:Nat->Prop}{h:Array Obj}{k:Option Nat}{w c:Value}{T:TypeId}{sz n':Nat}{rows:List (List Dt)}{x:Option Addr}{N f:Nat}(hb:bufR K h k w T sz rows)(l:w=.slice x N f)(C:N7 c k x N f sz 0 n') :
  ∃y,bufR K h y c T sz (rows.take n')/\(∀b,y=some b->k=some b)/\∃a n q,c=.slice a n q:=by
 obtain⟨D,m,e,rfl,o,E,g⟩:=C;obtain⟨z,F,p,G⟩:=hb;have d:(rows.take n').length<=eE:=by rw[length_take];omega
 rcases Nat.eq_zero_or_pos e with rfl|H
 .obtain rfl:n'=0:=by omega
  exact⟨none,⟨d,[],by simp[DRss],.inl ⟨⟨m,rfl⟩,by simp,rfl⟩⟩,fun b hb=>by(cases hb),_,_,_,rfl⟩
 .obtain⟨b,i,I,r⟩:=g H;rcases G with⟨_,_,j⟩|⟨s,A,t,J,B,u,j,L,R,S,M,O⟩
  .rw[i]at j;cases j
  .rw[l]at B;injection B with U P Q;subst P;subst Q;obtain rfl:s=b:=by rw[i]at u;exact(Option.some.inj u).symm
   have v:(rows.take n').length=n':=by rw[length_take];omega
   refine⟨some s,⟨d,F.take ((rows.take n').length*sz),OU p,.inr ⟨s,e,t,J,by rw[r,v,Nat.zero_mul],rfl,j,L,by rw[v];exact o,by omega,Nat.le_trans (Nat.mul_le_mul_right _ (by omega)) M,?_⟩⟩,fun b hb=>by rw[<-hb];exact u,_,_,_,rfl⟩;rw[<-O,take_take,Nat.min_eq_left (Nat.mul_le_mul_right _ (by rw[v];omega))]
theorem ed{c:Code}(k o:Nat){T:TypeId}{sz J:Nat}{rows:List (List Dt)}(L:Is (eR E k) (.vw o sz 0 J))(O:Is (eD H o) (.buf T sz rows))(f:eI kl o=false)(R:Wp P kl n B c Q ((k,.buf o)::fZ (· != o) E) ((fF (· != o) H).set o (.buf T sz (rows.take J)))):Wp P kl n B c Q E H:=by
 have q:=zu O (by simp);intro S a w U;obtain⟨K,G,V,r,M,W,X,s⟩:=U;have t:=M k;unfold Is at L;rw[L]at t;simp only[VR]at t;obtain⟨g,ad,N,Y,i,u,Z⟩:=t;have v:o<G.length:=(List.getElem?_eq_some_iff.1 i).1;obtain⟨bn,x,y,z⟩:=xl (r.ob o g _ i q) u Z;have hM:Mn K K w.heap w.heap:=⟨fun _ h=>h,fun _ _=>rfl⟩;let p:Gh:=⟨bn,a.tmps.getD k undef,[]⟩;have A:Mg (· != o) G (G.set o p):=fun j g' l C=>by rw[getElem?_set_ne (by simpa using Ne.symm (by simpa using l))];exact C
 have d:∀b,own p b->own g b:=fun b hb=>by
  rcases hb with hb|⟨_,hb,_⟩
  .exact .inl (y b hb)
  .cases hb
 refine R S a w ⟨K,G.set o p,V.trans (Ext.modB i f rfl ⟨rfl,fun _=>Nat.le_refl _⟩ rfl (Nat.le_refl _) (fun _ _ _=>rfl) fun b hb=>.inl (d b hb)),?_,fun m=>?_,W,X,fun j l=>?_⟩
 .rw[pp];exact r.modB i (Nat.le_refl _) (fun _ _ _=>rfl) (fun b hb=>⟨(r.gbo o g b i (d b hb)).1,.inl (d b hb)⟩) (show bufR _ _ _ _ _ _ _ from x)
 .by_cases e:m=k
  .subst e;rw[show eR ((m,Va.buf o)::fZ (· != o) E) m=.buf o from by simp[eR]];simp only[VR];exact⟨p,getElem?_set_self v,rfl,z⟩
  .rw[show eR ((k,Va.buf o)::fZ (· != o) E) m=eR (fZ (· != o) E) m from by simp[eR,Ne.symm e],sH];exact VR.prune hM A _ _ (M m)
 .obtain⟨vs,D,F⟩:=s j l;have I:j≠o:=fun h=>by rw[h]at l;rw[show eI kl o=true from l]at f;cases f
  refine⟨vs.prune (· != o),?_,dh F⟩;rw[getElem?_set_ne (Ne.symm I),pp,getElem?_map,D];rfl
theorem di{c:Code}(o:Nat){T:TypeId}{sz:Nat}{rows:List (List Dt)}(b:Is (eD H o) (.buf T sz rows))(d:eI kl o=false)(e:Wp P kl n B c Q E (H.set o (.fx T sz rows))):Wp P kl n B c Q E H:=by have a:=zu b (by simp);exact Wp.reob o (x:=.fx T sz rows) d (fun K G w g f h=>show ObR K w.heap G g (.buf T sz rows)from f.ob o g _ h a) (List.getElem?_eq_some_iff.1 a).1 e
theorem rC{α:Type}{k:Nat}{f:α->List Dt}{g:α->List (List Dt)}{e:α->List Dt}(h:∀x,(f x).set k (.l (g x))=e x):∀l:List α,pu k (l.map f) (l.map g)=l.map e
 |[]=>rfl
 |x::l=>by simp only[map_cons,pu,h x,rC h l]
theorem Gc{α:Type}{l:List α}{f:α->List (List Dt)}{d:α}{i:Nat}(hi:i<l.length)(z:List (List Dt)):(l.map f).getD i z=f (l.getD i d):=by simp[getD_eq_getElem?_getD,hi]
theorem PO{α β:Type}{l:List α}{f:α->β}{d:α}{i:Nat}{x:α}(hi:i<l.length)(h:f x=f (l.getD i d)):List.map f (List.set l i x)=List.map f l:=by
 rw[map_set,h];have:(l.map f)[i]?=some (f (l.getD i d)):=by simp[getD_eq_getElem?_getD,hi]
 obtain⟨a,b⟩:=List.getElem?_eq_some_iff.1 this;rw[<-b];exact set_getElem_self a
theorem dj{c:Code}(o:Nat){T:TypeId}{sz:Nat}{rows:List (List Dt)}(b:Is (eD H o) (.fx T sz rows))(d:eI kl o=false)(e:Wp P kl n B c Q E (H.set o (.buf T sz rows))):Wp P kl n B c Q E H:=by have a:=zu b (by simp);exact Wp.reob o (x:=.buf T sz rows) d (fun K G w g f h=>show ObR K w.heap G g (.fx T sz rows)from f.ob o g _ h a) (List.getElem?_eq_some_iff.1 a).1 e
end
section
variable {P:Program} {kl:List Bool} {n:Nat} {B:Bs} {Q:Qt} {E:ey} {H:List Ob}
theorem dF{id:Nat}{l:List Oper}(h:fz P kl n B l.toArray (Q .normal) (fv P kl n l l ⟨E,H,True⟩)):Wp P kl n B (.region id l.toArray false) Q E H:=by
 intro b a w c;refine wp_region_lit ?_;have:=Rg.run (ops:=l.toArray) (l:=l) h;exact this b a w _ c fun d e i j f g=>⟨d,e,f,g⟩
theorem ee{id:Nat}{l:List Oper}{y:Code}(h:∀K:ey->List Ob->Prop,(∀E H,Wp P kl n B y Q E H->K E H)->(∀E H a b,kM kl E H a b->K a b->K E H)->fz P kl n B l.toArray K (fv P kl n l l ⟨E,H,True⟩)):Wp P kl n B (.seq (.region id l.toArray false) y) Q E H :=
 da fun K c d=>dF (Q:=zz K Q) (h K c d)
theorem dw{id:Nat}{b:List Oper}(plan:Plan)(hm:P.follows .mixedOrders=true)(d:plan.length=b.length)(e:iJ b.toArray plan [] (Array.replicate b.length false)=true)
  (h:Dr P kl n B b.toArray plan [] E H (Q .normal)):Wp P kl n B (.region id b.toArray true) Q E H:=by
 intro f a w g;refine wp_region_any hm ?_;have j:DC b.toArray (Array.replicate b.length false):=fun i hi=>by
  simp[Array.getD_eq_getD_getElem?,Array.getElem?_replicate]at hi;split at hi <;> simp at hi
 have c:=h f (fun _ he=>by cases he) _ j e;rw[d]at c;rw[show b.toArray.size=b.length by simp];exact du _ c (g.drew _ (Nat.le_succ _)) fun k l o p c m=>⟨k,l,c,m⟩
theorem dN{id:Nat}{a:List Oper}{y:Code}(plan:Plan)(hm:P.follows .mixedOrders=true)(d:plan.length=a.length)(e:iJ a.toArray plan [] (Array.replicate a.length false)=true)
  (h:∀K:ey->List Ob->Prop,(∀E H,Wp P kl n B y Q E H->K E H)->(∀E H b c,kM kl E H b c->K b c->K E H)->kN P kl n B a.toArray K (gO P kl n a plan ⟨[],E,H,True⟩)):Wp P kl n B (.seq (.region id a.toArray true) y) Q E H :=
 da fun K f g=>dw (Q:=zz K Q) plan hm d e (Dr.run (h K f g))
theorem ei{id:Nat}{d:List Oper}(plan:Plan)(hm:P.follows .mixedOrders=true)(k:plan.length=d.length)(l:iJ d.toArray plan [] (Array.replicate d.length false)=true)
  (h:∀K:ey->List Ob->Prop,(∀E H,Q .normal E H->K E H)->(∀E H b c,kM kl E H b c->K b c->K E H)->kN P kl n B d.toArray K (gO P kl n d plan ⟨[],E,H,True⟩)):Wp P kl n B (.region id d.toArray true) Q E H:=by
 let K:ey->List Ob->Prop:=fun E H=>B.G0.length=kl.length->∀a w,Rel (cx P kl n B) E H a w->∃b c,Q .normal b c/\Rel (cx P kl n B) b c a w;have m:=dw (id:=id) (Q:=zz K Q) plan hm k l (Dr.run (h K (fun E H j _ a w f=>⟨E,H,j,f⟩) (fun E H b c o p g a w f=>p g a w (Rel.cut g f o))));intro g a w f;refine wp_mono (m g a w f) ?_;intro e q r ⟨b,c,j,i⟩;cases e <;> first|exact j g q r i|exact⟨b,c,j,i⟩
end
section
variable {P:Program} {kl:List Bool} {n:Nat} {B:Bs} {K:ey->List Ob->Prop} {E:ey} {H:List Ob}
def vI(a:List Oper)(o:Oper)(E:ey)(v:Va)(b:Option (Nat->Bool))(_:List Ob):Prop:=L9 a o E (.cnd false v) b
theorem dC{b:List Oper}{l:Plan}{c:List En}{k:Nat}{o:Oper}{v:Va}{gw:Nat×Bool}(d:Is b[k]? (some o))(m:Is o.guard (some gw))(hb:Is (iK b E o) (some false))(x:gx n o.dst)
  (e:kN P kl n B b.toArray K (gO P kl n b l ⟨⟨k,E,.cnd false v,vI b o E v⟩::c,eP E o.dst (.cnd false v),H,True⟩)):Dr P kl n B b.toArray (.rd k l) c E H K:=by
 unfold Is iK at *;obtain⟨j,f⟩:=gw;rw[m]at hb;have p:=Dr.run e;simp only at p;rw[<-kS d]at p;have g:∀H',Rdr P kl n B b.toArray k E (.cnd false v) H':=by
  intro H' I q a w Q J u h;rw[kS d]at h;have i:je b.toArray.toList E j f=some false:=by simpa using hb
  rw[<-CW (iz d) m q]at i;have y:=sG u m i;unfold wpOp;simp only[iz d];rw[if_neg (by rw[y];simp)];obtain⟨Kk,G,z,A,D,r,F,s⟩:=u;exact h _ _ (RelV.put (C:=cx P kl n B) (v:=.cnd false v) ⟨Kk,G,z,A,D,r,F,s,by simp[VR]⟩ o.dst (zY x))
 exact dD (fun _=>g _) (fun _ L H' t=>⟨g _,ml d t⟩) p
end
attribute [go_sem] vI
attribute [go_sem] Sc Option.getD_none Option.getD_some Nat.sub_zero Nat.zero_add drop_zero
def gQ(i j o:Nat):Nat:=bif o == i then j else bif o == j then i else o
mutual
def gG(i j:Nat):Va->Va
 |.p x=>.p x
 |.nils=>.nils
 |.full r=>.full r
 |.rp r=>.rp r
 |.ptr o b=>.ptr (gQ i j o) b
 |.cs o b=>.cs (gQ i j o) b
 |.el o c k b=>.el (gQ i j o) c k b
 |.buf o=>.buf (gQ i j o)
 |.mp o=>.mp (gQ i j o)
 |.np o=>.np (gQ i j o)
 |.sd o=>.sd (gQ i j o)
 |.vw o c a n=>.vw (gQ i j o) c a n
 |.bufc o e=>.bufc (gQ i j o) e
 |.nv o k=>.nv (gQ i j o) k
 |.ne o c k l b=>.ne (gQ i j o) c k l b
 |.fn f d=>.fn f (kZ i j d)
 |.agg d=>.agg (kZ i j d)
 |.tup d=>.tup (kZ i j d)
 |.nil=>.nil
 |.cnd t v=>.cnd t (gG i j v)
 |.raw v=>.raw v
 |.er v=>.er v
 |.top=>.top
def kZ(i j:Nat):List Va->List Va
 |[]=>[]
 |v::a=>gG i j v::kZ i j a
end
def ve(i j:Nat):Ob->Ob
 |.cells T m=>.cells T (kZ i j m)
 |.it o d c=>.it (gQ i j o) d c
 |.buf T b a=>.buf T b a
 |.fx T b a=>.fx T b a
 |.sb T e=>.sb T e
 |.mp g h=>.mp g h
 |.mpb g h e d=>.mpb g h e d
 |.nst f T b k p a n=>.nst f T b k (gQ i j p) a n
 |.inn T b l=>.inn T b l
 |.gone=>.gone
 |.lost=>.lost
def D7(i j:Nat):ey->ey
 |[]=>[]
 |(m,v)::E=>(m,gG i j v)::D7 i j E
def B2{A:Type}(i j:Nat)(l:List A):List A:=match l[i]?,l[j]? with
 |some x,some y=>(l.set i y).set j x
 |_,_=>l
def pQ(i j:Nat):List Ob->List Ob
 |[]=>[]
 |x::H=>ve i j x::pQ i j H
def D6(i j:Nat)(H:List Ob):List Ob:=((pQ i j H).set i (eD (pQ i j H) j)).set j (eD (pQ i j H) i)
theorem vd(i j:Nat)(H:List Ob):pQ i j H=H.map (ve i j):=by induction H <;> simp_all[pQ]
theorem D5(i j o:Nat):gQ i j o=if o=i then j else if o=j then i else o:=by
 unfold gQ;by_cases a:o=i
 .subst a;simp
 .rw[beq_false_of_ne a,if_neg a,cond_false];by_cases b:o=j
  .subst b;simp
  .rw[beq_false_of_ne b,if_neg b,cond_false]
theorem k0(i j o:Nat):gQ i j (gQ i j o)=o:=by
 simp only[D5];repeat' split
 all_goals omega
theorem ra{A:Type}{i j:Nat}{l:List A}(hi:i<l.length)(b:j<l.length)(o:Nat):(B2 i j l)[o]?=l[gQ i j o]?:=by
 unfold B2;rw[getElem?_eq_getElem hi,getElem?_eq_getElem b];unfold gQ;by_cases c:o=i
 .subst c;by_cases a:j=o
  .subst a;simp[hi]
  .simp only[beq_self_eq_true,cond_true];rw[getElem?_set_ne a,getElem?_set_self hi,getElem?_eq_getElem b]
 .rw[beq_false_of_ne c];simp only[cond_false];by_cases a:o=j
  .subst a;simp only[beq_self_eq_true,cond_true];rw[getElem?_set_self (by simpa using b),getElem?_eq_getElem hi]
  .rw[beq_false_of_ne a,cond_false,getElem?_set_ne (Ne.symm a),getElem?_set_ne (Ne.symm c)]
theorem nD{o:Nat}:∀{H:List Ob} {x:Ob},H[o]?=some x->eD H o=x:=by
 induction o with
 |zero=>intro H x h;cases H <;> simp_all[eD]
 |succ o a=>intro H x h;cases H with
  |nil=>simp at h
  |cons y H=>simpa [eD]using a (by simpa using h)
theorem vf{i j:Nat}{H:List Ob}(hi:i<H.length)(c:j<H.length):D6 i j H=B2 i j (H.map (ve i j)):=by
 have a:(H.map (ve i j))[i]?=some (ve i j H[i]):=by simp[hi]
 have b:(H.map (ve i j))[j]?=some (ve i j H[j]):=by simp[c]
 rw[D6,vd,B2,a,b,nD a,nD b]
theorem Pu{A:Type}{i j:Nat}{l:List A}:(B2 i j l).length=l.length:=by
 unfold B2;split <;> simp
theorem D4{i j o n:Nat}(hi:n<=i)(a:n<=j)(b:o<n):gQ i j o=o:=by unfold gQ;rw[beq_false_of_ne (by omega:o≠i),beq_false_of_ne (by omega:o≠j)];rfl
section
variable {K:Nat->Prop} {h:Array Obj} {G G':List Gh} {i j:Nat}
mutual
theorem pP(s:∀(o:Nat) (g:Gh),G[o]?=some g->G'[gQ i j o]?=some g):∀(c:Value) (v:Va),VR K h G c v->VR K h G' c (gG i j v)
 |_,.p x,H=>by simpa only[gG,VR]using H
 |_,.nils,H=>by simpa only[gG,VR]using H
 |_,.full r,H=>by simpa only[gG,VR]using H
 |_,.rp r,H=>by simpa only[gG,VR]using H
 |_,.ptr o u,H=>by simp only[gG,VR]at *;obtain⟨g,b,d,m⟩:=H;exact⟨g,b,s o g d,m⟩
 |_,.cs o u,H=>by simp only[gG,VR]at *;obtain⟨g,b,d,m⟩:=H;exact⟨g,b,s o g d,m⟩
 |_,.el o y k u,H=>by simp only[gG,VR]at *;obtain⟨g,b,n,q,d,m⟩:=H;exact⟨g,b,n,q,s o g d,m⟩
 |_,.buf o,H=>by simp only[gG,VR]at *;obtain⟨g,d,m⟩:=H;exact⟨g,s o g d,m⟩
 |_,.mp o,H=>by simp only[gG,VR]at *;obtain⟨g,b,d,m⟩:=H;exact⟨g,b,s o g d,m⟩
 |_,.np o,H=>by
  simp only[gG,VR]at *;rcases H with H|⟨g,b,d,m⟩
  .exact .inl H
  .exact .inr ⟨g,b,s o g d,m⟩
 |_,.sd o,H=>by simp only[gG,VR]at *;obtain⟨g,a,n,q,d,m⟩:=H;exact⟨g,a,n,q,s o g d,m⟩
 |_,.vw o y a n,H=>by simp only[gG,VR]at *;obtain⟨g,z,N,q,d,m⟩:=H;exact⟨g,z,N,q,s o g d,m⟩
 |_,.bufc o A,H=>by simp only[gG,VR]at *;obtain⟨g,a,n,q,d,m⟩:=H;exact⟨g,a,n,q,s o g d,m⟩
 |_,.nv o k,H=>by simp only[gG,VR]at *;obtain⟨g,a,n,q,d,m⟩:=H;exact⟨g,a,n,q,s o g d,m⟩
 |_,.ne o y k l u,H=>by simp only[gG,VR]at *;obtain⟨g,b,n,q,d,m⟩:=H;exact⟨g,b,n,q,s o g d,m⟩
 |_,.fn f w,H=>by simp only[gG,VR]at *;obtain⟨cs,d,m⟩:=H;exact⟨cs,d,Hj s cs w m⟩
 |_,.agg w,H=>by simp only[gG,VR]at *;obtain⟨cs,d,m⟩:=H;exact⟨cs,d,Hj s cs w m⟩
 |_,.tup w,H=>by simp only[gG,VR]at *;obtain⟨cs,d,m⟩:=H;exact⟨cs,d,Hj s cs w m⟩
 |_,.nil,H=>by simpa only[gG,VR]using H
 |_,.cnd t v,H=>by simp only[gG,VR]at *;exact⟨fun e=>pP s _ v (H.1 e),H.2⟩
 |_,.raw v,H=>by simpa only[gG,VR]using H
 |_,.er v,H=>by simpa only[gG,VR]using H
 |_,.top,H=>by simp only[gG,VR]
theorem Hj(d:∀(o:Nat) (g:Gh),G[o]?=some g->G'[gQ i j o]?=some g):∀(cs:List Value) (b:List Va),VRs K h G cs b->VRs K h G' cs (kZ i j b)
 |_,[],H=>by simpa only[kZ,VRs]using H
 |_,v::b,H=>by simp only[kZ,VRs]at *;obtain⟨c,a,e,f,k⟩:=H;exact⟨c,a,e,pP d c v f,Hj d a b k⟩
end
theorem D3(e:∀(o:Nat) (g:Gh),G[o]?=some g->G'[gQ i j o]?=some g){g:Gh}{x:Ob}(H:ObR K h G g x):ObR K h G' g (ve i j x):=by
 cases x with
 |cells T l=>obtain⟨b,cs,a,c,d⟩:=H;exact⟨b,cs,a,c,Hj e cs l d⟩
 |it o w m=>obtain⟨b,s,n,a,c,d⟩:=H;exact⟨b,s,n,a,e o n c,d⟩
 |nst f T t k p q y=>obtain⟨u,a,r,l,c,d⟩:=H;exact⟨u,a,r,l,e p r c,d⟩
 |inn T t v=>exact H
 |_=>exact H
theorem yZ{E:ey}:∀{m:Nat},eR (D7 i j E) m=gG i j (eR E m):=by
 intro m;induction E with
 |nil=>rfl
 |cons p E a =>
  obtain⟨k,v⟩:=p;simp only[D7,eR];split
  .rfl
  .exact a
end
section
variable {P:Program} {kl:List Bool} {n:Nat} {B:Bs} {Q:Qt} {E:ey} {H:List Ob} {a:Act} {w:World}
theorem Rel.swap{i j:Nat}(C:B.G0.length=kl.length)(hi:kl.length<=i)(D:kl.length<=j)(d:i<H.length)(e:j<H.length)(h:Rel (cx P kl n B) E H a w):Rel (cx P kl n B) (D7 i j E) (D6 i j H) a w:=by
 obtain⟨K,G,r,f,F,I,J,L⟩:=h;have s:i<G.length:=by rw[f.len];exact d
 have t:j<G.length:=by rw[f.len];exact e
 have p:=fun o=>ra s t o;have v:∀(o:Nat) (g:Gh),G[o]?=some g->(B2 i j G)[gQ i j o]?=some g:=fun o g k=>by rw[p,k0];exact k
 have z:∀o,(D6 i j H)[o]?=(H[gQ i j o]?).map (ve i j):=fun o=>by rw[vf d e,ra (by simpa using d) (by simpa using e),getElem?_map]
 have q:∀o,o<kl.length->gQ i j o=o:=fun o k=>D4 hi D k;refine⟨K,B2 i j G,?_,?_,fun m=>?_,I,J,fun o k=>?_⟩
 .exact { r with
   glen:=by rw[Pu];exact r.glen
   gown:=fun o g b c hb=>by rw[p]at c;exact r.gown _ g b c hb
   gsame:=fun o M k A=>by
    rw[p,q o (by rw[<-C];exact(List.getElem?_eq_some_iff.1 A).1)];exact r.gsame o M k A }
 .refine⟨by rw[Pu,vf d e,Pu,length_map];exact f.len,f.kb,fun o g b c l=>f.gbo _ g b (by rw[<-p];exact c) l,fun o T g N b c l O Q=>?_,fun o g x c l=>?_,f.tb⟩
  .rw[p]at c l;have:=f.ijo _ _ g N b c l O Q;rw[<-k0 i j o,this,k0]
  .rw[p]at c;rw[z]at l;obtain⟨y,R,rfl⟩:=Option.map_eq_some_iff.1 l;exact D3 v (f.ob _ g y c R)
 .rw[yZ];exact pP v _ _ (F m)
 .obtain⟨x,S,u⟩:=L o k;refine⟨ve i j x,by rw[z,q o (lG k),S];rfl,?_⟩;cases x <;> exact u
theorem Wp.swap(i j:Nat){c:Code}(hi:kl.length<=i)(f:kl.length<=j)(b:i<H.length)(d:j<H.length)(h:Wp P kl n B c Q (D7 i j E) (D6 i j H)):Wp P kl n B c Q E H:=fun e a w g=>h e a w (Rel.swap e hi f b d g)
structure VH(kl:List Bool)(K:ey->List Ob->Prop):Prop where
 weak:∀E H E' H',kM kl E H E' H'->K E' H'->K E H
 swap:∀i j E H,kl.length<=i->kl.length<=j->i<H.length->j<H.length->K (D7 i j E) (D6 i j H)->K E H
theorem dv{id:Nat}{b:List Oper}{y:Code}(plan:Plan)(hm:P.follows .mixedOrders=true)(m:plan.length=b.length)(o:iJ b.toArray plan [] (Array.replicate b.length false)=true)
  (h:∀K:ey->List Ob->Prop,(∀E H,Wp P kl n B y Q E H->K E H)->VH kl K->kN P kl n B b.toArray K (gO P kl n b plan ⟨[],E,H,True⟩)):Wp P kl n B (.seq (.region id b.toArray true) y) Q E H:=by
 intro f a w p;refine wp_seq (wp_mono (dw (Q:=zz (fun E H=>Wp P kl n B y Q E H) Q) plan hm m o (Dr.run (h _ (fun _ _ h=>h) ⟨fun E H g k q d=>Wp.weak q d,fun i j E H r s t u d=>Wp.swap i j r s t u d⟩)) f a w p) ?_);intro e v x ⟨g,k,l,c⟩;cases e <;> first|exact l f v x c|exact⟨g,k,l,c⟩
attribute [go_sem] D7 gG kZ D6 ve pQ gQ
end
def Dt.flat:Dt->Bool
 |.l _=>false
 |.a _=>false
 |.r _=>false
 |_=>true
def og:List Dt->Bool
 |[]=>true
 |d::a=>d.flat&&og a
def iY(rows:List (List Dt)):Prop:=∀r∈rows,og r=true
theorem qv{α:Type}{e:α->List Dt}(h:∀x,og (e x)=true)(l:List α):iY (List.map e l):=fun r a=>by obtain⟨x,_,rfl⟩:=mem_map.1 a;exact h x
section
variable {K K':Nat->Prop} {h h':Array Obj}
theorem DR.flat{c:Value}:∀{d:Dt},d.flat=true->DR K h c d->DR K' h' c d
 |.b _,_,e=>by simpa only[DR]using e
 |.i _ _,_,e=>by simpa only[DR]using e
 |.s _,_,e=>by simpa only[DR]using e
 |.l _,f,_=>by simp[Dt.flat]at f
 |.a _,f,_=>by simp[Dt.flat]at f
 |.r _,f,_=>by simp[Dt.flat]at f
theorem DRs.flat:∀{a:List Dt} {b:List Value},og a=true->DRs K h b a->DRs K' h' b a
 |[],_,_,c=>by simpa only[DRs]using c
 |d::a,b,f,c=>by simp only[og,Bool.and_eq_true]at f;simp only[DRs]at *;obtain⟨v,g,e,i,j⟩:=c;exact⟨v,g,e,DR.flat f.1 i,DRs.flat f.2 j⟩
theorem DRss.flat{sz:Nat}:∀{rows:List (List Dt)} {c:List Value},iY rows->DRss K h sz c rows->DRss K' h' sz c rows
 |[],_,_,d=>by simpa only[DRss]using d
 |r::rows,c,f,d=>by simp only[DRss]at *;obtain⟨a,b,e,g,i,j⟩:=d;exact⟨a,b,e,g,DRs.flat (f r (by simp)) i,DRss.flat (fun k h'=>f k (by simp[h'])) j⟩
end
theorem dP{K a:Nat->Prop}{h:Array Obj}{G b:List Gh}{g:Gh}{T:TypeId}{sz:Nat}{rows:List (List Dt)}(c:iY rows)(d:ObR K h G g (.buf T sz rows)):ObR a h b g (.buf T sz rows):=by obtain⟨e,f,i,j⟩:=d;exact⟨e,f,DRss.flat c i,j⟩
theorem St.push1{K:Nat->Prop}{G:List Gh}{H:List Ob}{w:World}{g:Gh}{x:Ob}(c:St K G H w)(v:ObR K w.heap (G++[g]) g x)
  (hb:∀b,own g b->b<w.heap.size/\¬ K b/\∀(o:Nat) (a:Gh),G[o]?=some a->¬ own a b):St K (G++[g]) (H++[x]) w:=by
 have cs:∀{o:Nat} {a:Gh},(G++[g])[o]?=some a->(o<G.length/\G[o]?=some a)∨(o=G.length/\a=g):=by
  intro o a h;rcases Nat.lt_or_ge o G.length with j|j
  .rw[getElem?_append_left j]at h;exact .inl ⟨j,h⟩
  .rw[getElem?_append_right j]at h;rcases Nat.eq_zero_or_pos (o-G.length)with l|l
   .rw[l]at h;simp at h;exact .inr ⟨by omega,h.symm⟩
   .rw[getElem?_eq_none (by simp;omega)]at h;cases h
 refine⟨by simp[c.len],c.kb,fun o a b m d=>?_,fun o r s t b j l e i=>?_,fun o a y m k=>?_,c.tb⟩
 .rcases cs m with⟨_,h⟩|⟨_,rfl⟩
  .exact c.gbo o a b h d
  .exact⟨(hb b d).1,(hb b d).2.1⟩
 .rcases cs j with⟨_,n⟩|⟨n,rfl⟩ <;> rcases cs l with⟨_,p⟩|⟨p,rfl⟩
  .exact c.ijo o r s t b n p e i
  .exact absurd e ((hb b i).2.2 o s n)
  .exact absurd i ((hb b e).2.2 r t p)
  .omega
 .rcases cs m with⟨z,h⟩|⟨rfl,rfl⟩
  .rw[getElem?_append_left (by rw[<-c.len];exact z)]at k;exact ObR.keep ⟨fun _ h=>h,fun _ _=>rfl⟩ (f:=fun _=>true) (fun q A _ u=>by rw[getElem?_append_left (List.getElem?_eq_some_iff.1 u).1];exact u) (fun _ _=>rfl) (Ob.all_true _) (c.ob o a y h k)
  .rw[c.len,getElem?_append_right (Nat.le_refl _)]at k;simp at k;subst k;exact v
section
variable {P:Program} {kl:List Bool} {n:Nat} {B:Bs} {K:ey->List Ob->Prop} {E:ey} {H:List Ob}
theorem tI{o:Oper}{c:Call}{i:Operand}{f:FuncId}{l args:List Va}{T:TypeId}{sz:Nat}{rows:List (List Dt)}(hs:Does P f args [] fun r X=>r=.buf 0/\X=[.buf T sz rows])(I:iY rows)(ho:o.op=.call c)(hc:c.callee=.value i)
  (A:opOk true E i/\allOk true E c.args.toList) (hf:opnd E i=.fn f l) (hp:js H (opnds E c.args.toList++l)=some args) {a:Act} {w:World} {Q:Exit->Act->World->Prop} {Z:Act->World->Prop} (hR:Rel (cx P kl n B) E H a w)
  (hK:∀J w',RelV (cx P kl n B) E (H++[.buf T sz rows]) J (.buf H.length) a w'->Z (a.put o.dst J) w'):o.wp P a w Z Q:=by
 obtain⟨Kk,G,hX,p,K,L,hn,M⟩:=hR;have s:=zG K rfl i A.1;rw[hf]at s;simp only[VR]at s;obtain⟨cs,N,O⟩:=s;have t:=x9 K rfl c.args.toList A.2;have C:=yF p hp (t.append O);unfold Oper.wp;rw[Gb ho hc N hs.1];simp only[Oper.upon];refine(hs.2 (uv Kk G) [] w _ (St.nil (MU p) (p.tb.mono ⟨fun _ h=>.inl h,fun _ _=>rfl⟩)) C).mono ?_;rintro e w' ⟨J,r,X',K1,G1,rfl,⟨rfl,rfl⟩,d,u,hv,_⟩;have fr:∀b,b<w.heap.size->w'.heap[b]?=w.heap[b]?:=fun b hb=>d.frame b hb (fun o R h=>by simp at h);have hA:=p.after d;simp only[VR]at hv;obtain⟨g,v,rfl,S⟩:=hv;have U:G1=[g]:=by
  have hl:=u.len;match G1,hl,v with
  |[j],_,v=>simp at v;rw[v]
 subst U;have k:∀b,own g b->w.heap.size<=b/\b<w'.heap.size:=fun b hb=>⟨(d.gown 0 g b v hb).elim (fun⟨_,_,h,_⟩=>by simp at h) id,(u.gbo 0 g b v hb).1⟩;have hx:=u.ob 0 g (.buf T sz rows) v rfl;have V:St Kk (G++[g]) (H++[.buf T sz rows]) w':=hA.push1 (dP I hx) fun b hb=>⟨(k b hb).2,fun W=>by have:=p.kb b W;have:=(k b hb).1;omega,fun D j h' e=>by have:=(p.gbo D j b h' e).1;have:=(k b hb).1;omega⟩;have F:Mg (fun _=>true) G (G++[g]):=fun q R _ hq=>by rw[getElem?_append_left (List.getElem?_eq_some_iff.1 hq).1];exact hq
 have cs:∀{o:Nat} {j:Gh},(G++[g])[o]?=some j->(o<G.length/\G[o]?=some j)∨(o=G.length/\j=g):=by
  intro o j h;rcases Nat.lt_or_ge o G.length with x|x
  .rw[getElem?_append_left x]at h;exact .inl ⟨x,h⟩
  .rw[getElem?_append_right x]at h;rcases Nat.eq_zero_or_pos (o-G.length)with h2|h2
   .rw[h2]at h;simp at h;exact .inr ⟨by omega,h.symm⟩
   .rw[getElem?_eq_none (by simp;omega)]at h;cases h
 have Y:Ext (eI kl) B.K0 B.G0 B.w0 Kk (G++[g]) w':=by
  refine hX.trans ⟨d.os,d.tape,d.output,d.size,fun _ h=>h,fun _ h=>.inl h,by simp,fun D j b x hb=>?_,fun D R _ h0=>F D R rfl h0,fun b hb _=>fr b hb⟩;rcases cs x with⟨_,h⟩|⟨_,rfl⟩
  .exact .inl ⟨D,j,h,hb⟩
  .exact .inr (k b hb).1
 refine hK g.sv w' ⟨Kk,G++[g],Y,V,fun m=>VR.keep (f:=fun _=>true) ⟨fun _ h=>h,fun b hb=>fr b (p.kb b hb)⟩ F _ _ (Va.all_true _) (K m),L,hn,fun y hy=>?_,?_⟩
 .obtain⟨z,hz,W⟩:=M y hy;exact⟨z,by rw[getElem?_append_left (List.getElem?_eq_some_iff.1 hz).1];exact hz,W⟩
 .simp only[VR];exact⟨g,by rw[<-p.len];simp,rfl,S⟩
end
section
variable {P:Program} {kl:List Bool} {n:Nat} {B:Bs} {ops:List Oper} {K:ey->List Ob->Prop} {l:Plan} {obs:List En} {E:ey} {H:List Ob}
theorem dM{k:Nat}{L:List Nat}{f:FuncId}{av args:List Va}{X Y:List Ob}{o:Oper}{v:Va}(b:List Nat)(hs:Does P f args X fun r M=>r=v/\M=Y)(t:Is ops[k]? (some o))(g:Is (g9 E o) (some (f,av)))(hb:Is (iK ops E o) (some true))(N:Is (jC b av) (some args))(u:Is (iI b H b) (some X))(h:jc H.length b=true)(O:ie n true E o)
  (hag:ug L (some (fH b H)) (fy (fF (fH b H) H) b (gi b H.length Y)) obs)
  (y:kN P kl n B ops.toArray K (gO P kl n ops l ⟨obs,eP (fZ (fH b H) E) o.dst (iA o.guard true (fa b H.length v)),fy (fF (fH b H) H) b (gi b H.length Y),True⟩)):Br P kl n B ops.toArray k L l obs E H K:=by
 unfold Is at *;unfold g9 at g;split at g;rotate_left
 .cases g
 rename_i c I;split at g;rotate_left
 .cases g
 rename_i fop J;split at g;rotate_left
 .cases g
 rename_i f' V R;cases g;obtain⟨W,m,p⟩:=qQ O I J;have h':=Dr.run y;simp only at h';rw[<-kS t]at h';refine Br.eff (po:=some (fH b H)) (fun _=>?_) hag h';intro E' z a w Q K' S A;have q:=yC (iz t) z;rw[I]at q;have C:eN E fop=eN E' fop:=q fop (by simp[Op.operands,Call.operands,J]);have i:Agree c.args.toList E E':=fun x Z=>q x (by simp only[Op.operands,Call.operands,Array.toList_append,mem_append];exact .inr Z);rw[Agree.opOk C]at m;rw[Agree.allOk i]at p;rw[Agree.opnd C]at R;rw[Agree.opnds i]at N;rw[kS t]at A;unfold wpOp;simp only[iz t];unfold iK at hb;cases d:o.guard with
 |none =>
  rw[d]at hb A;rw[if_pos (by simp[Region.wanted,d])];refine .inl (BD b hs I J ⟨m,p⟩ R N u h S fun c' r M w' ⟨T,U⟩ _ s=>?_);subst T;subst U;exact A _ _ (s.put o.dst (zY W))
 |some gw =>
  obtain⟨j,D⟩:=gw;rw[d]at hb A;have F:je ops.toArray.toList E j D=some true:=by simpa using hb
  rw[<-CW (iz t) d z]at F;have hw:=sG S d F;rw[if_pos hw];refine .inl (BD b hs I J ⟨m,p⟩ R N u h S fun c' r M w' ⟨T,U⟩ _ s=>?_);subst T;subst U;exact A _ _ (RelV.put (v:=.cnd true _) (by
   obtain⟨Kk,G,q1,q2,q3,q4,q5,q6,q7⟩:=s;exact⟨Kk,G,q1,q2,q3,q4,q5,q6,by simp only[VR];exact⟨fun _=>q7,fun e=>Bool.noConfusion e⟩⟩) o.dst (zY W))
end
attribute [go_sem] Option.toArray Array.toList_append
section
variable {P:Program} {kl:List Bool} {n:Nat} {B:Bs} {K:ey->List Ob->Prop} {E:ey} {H:List Ob}
theorem ea{b:Array Oper}{o:Oper}{l:List Oper}{f:FuncId}{av args:List Va}{T:TypeId}{sz:Nat}{rows:List (List Dt)}(hs:Does P f args [] fun r X=>r=.buf 0/\X=[.buf T sz rows])(e:iY rows)(q:Is (x7 E o) (some (f,av)))(s:Is (js H av) (some args))(g:ie n true E o)
  (d:fz P kl n B b K (fv P kl n b.toList l ⟨eP E o.dst (.buf H.length),H++[.buf T sz rows],True⟩)):Rg P kl n B b (o::l) E H K:=by
 obtain⟨c,t,k,m,u,p,v,x⟩:=NC q;obtain⟨y,z⟩:=qQ g m p;intro A a w Q C h;refine wpList_plain u fun K' i=>?_;exact tI hs e m p z v (by rw[<-x];exact s) C fun D F j=>i _ _ (Rg.run d A _ _ _ (j.put o.dst (zY y)) h)
end
open Go.Proofs Go.Shelf Go.RowKit
variable [Tabs] {P:Program} {ρ:Ren}
theorem dU{f:FuncId}{args:List Va}{r:Va}(j:F2 P f)
  (h:∀(K:Nat->Prop) (w:World) vals,TabOk K w.heap->VRs K w.heap [] vals args->Calls P f vals.toArray w fun e i=>∃v,e=.returned v/\Below w.heap.size w i/\VR K i.heap [] v r) (hmn:¬ Tabs.mono:=by exact fun h=>h) :
  Does P f args [] fun k X=>k=r/\X=[]:=by
 refine⟨j,fun K G w vals c l=>?_⟩;have n:G=[]:=eq_nil_of_length_eq_zero (by have:=c.len;simpa using this);subst n;refine(h K w vals c.tb l).mono ?_;rintro e i ⟨v,rfl,a,p⟩;have q:Mn K K w.heap i.heap:=⟨fun _ h=>h,fun b hb=>a.block b (c.kb b hb)⟩;refine⟨v,r,[],K,[],rfl,⟨rfl,rfl⟩,{ Ext.refl (eI (kinds [])) K [] w with os:=a.os,tape:=⟨a.tape,fun m=>(hmn m).elim⟩,output:=a.output,size:=a.size,frame:=fun b hb _=>a.block b hb },
  ⟨rfl,fun b hb=>Nat.lt_of_lt_of_le (c.kb b hb) a.size,fun o g b d=>by simp at d,fun o s g t b d=>by simp at d,fun o g x d=>by simp at d,c.tb.mono q⟩,p,F4 []⟩
open Go.Proofs Go.Shelf Go.RowKit
theorem PE(o n:List UInt8)(h:n.length<=o.length):∀(k:Nat) (s:List UInt8),(Lib.replaceK o n k s).length<=s.length
 |0,s=>Nat.le_refl _
 |k+1,s=>by
  unfold Lib.replaceK;split
  .exact Nat.le_refl _
  .rename_i g;have h0:0<=Lib.index s o:=by have:=Lib.index_ge s o;have:Lib.index s o≠-1:=fun e=>g (by rw[e];rfl);omega
   have hr:=Lib.index_room s o h0;have ih:=PE o n h k (s.drop ((Lib.index s o).toNat+o.length));simp only[length_append,length_take,length_drop]at ih|-;omega
theorem Does.replace(L:Lays.n154 P ρ)(X:Builder.Extra P ρ)(j:F2 P (ρ.f 154))(hv:Tabs.num (ρ.g 1)=true)(s o:List UInt8)(k:Int)(hs:s.length<4294967281)(hmn:¬ Tabs.mono:=by exact fun h=>h) :
  Does P (ρ.f 154) [.p (.s s),.p (.s o),.p (.s []),.p (.i .i64 k)] [] fun r Y=>r=.p (.s (Lib.replace s o [] k))/\Y=[]:=by
 refine dU (hmn:=hmn) j fun K w vals d l=>?_;simp only[VRs,VR,DR]at l;obtain⟨v,x,rfl,⟨rfl,h1⟩,y,z,rfl,⟨rfl,h2⟩,a,b,rfl,⟨rfl,_⟩,c,e,rfl,⟨rfl,_⟩,rfl⟩:=l;have q:∀l:List UInt8,(⟨l.toArray⟩:ByteArray).data.toList=l:=fun l=>by simp
 have m:∀l:List UInt8,(⟨l.toArray⟩:ByteArray).size=l.length:=fun l=>by simp[ByteArray.size]
 by_cases ho:o=[]
 .subst ho;refine(Any.strings_Replace_none L ⟨s.toArray⟩ ⟨([]:List UInt8).toArray⟩ ⟨([]:List UInt8).toArray⟩ k w (.inl rfl)).mono ?_;rintro E W ⟨rfl,rfl⟩;refine⟨_,rfl,Below.refl _ _,?_⟩;simp only[VR,DR];refine⟨by unfold Lib.replace;rw[if_pos (by simp)],?_⟩;unfold Lib.replace;rw[if_pos (by simp)];exact h1
 .obtain⟨_,cs,T,fr,M,hc,hm⟩:=d.2.2 _ hv;have hcell:w.cell? ⟨ρ.g 1,0,none⟩=some (.int .i64 M):=by rw[cell_of_row w (ρ.g 1) 0 cs T fr hc];exact hm
  have ho1:1<=o.length:=Nat.pos_of_ne_zero fun e=>ho (length_eq_zero_iff.1 e);refine(Any.strings_Replace L X ⟨s.toArray⟩ ⟨o.toArray⟩ ⟨([]:List UInt8).toArray⟩ k M w (by rw[m];exact hs) hcell (by rw[m];exact ho1) (by rw[m,m];simp;omega)).mono ?_;rintro E W ⟨rfl,hb⟩;refine⟨_,rfl,hb,?_⟩;simp only[VR,DR];refine⟨trivial,Nat.le_trans ?_ h1⟩;unfold Lib.replace;split
  .exact Nat.le_refl _
  .exact PE o [] (Nat.zero_le _) _ s
def tm:List Nat->Nat->Bool
 |[],_=>false
 |x::l,i=>bif i == x then true else tm l i
def B6(a:List Nat):Nat->List Bool->List Bool
 |_,[]=>[]
 |i,b::l=>(b&&!tm a i)::B6 a (i+1) l
section
variable {P:Program} {kl:List Bool} {n:Nat} {B:Bs} {K:ey->List Ob->Prop} {E:ey} {H:List Ob} {ops:Array Oper}
def Kr(a b:List Nat)(H:List Ob)(o:Nat):Bool:=fH a H o&&!tm b o
def LS(c a:List Nat):Nat->List Nat->Bool
 |_,[]=>true
 |j,i::b=>(bif tm c j then tm a i else true)&&LS c a (j+1) b
def Cf(a:List Bool):List Nat->Bool
 |[]=>true
 |i::l=>!eI a i&&Cf a l
end
section
variable {P:Program} {kl:List Bool} {n:Nat} {B:Bs} {K:ey->List Ob->Prop} {E:ey} {H:List Ob} {ops:Array Oper}
end
section
variable {P:Program} {kl:List Bool} {n:Nat} {B:Bs} {K:ey->List Ob->Prop} {E:ey} {H:List Ob} {ops:List Oper} {obs:List En} {l:Plan}
end
section
variable {P:Program} {kl:List Bool} {n:Nat} {B:Bs} {Q:Qt} {E:ey} {H:List Ob} {a:Act} {w:World}
theorem eh{id:Nat}{l:List Oper}(h:∀K:ey->List Ob->Prop,(∀E H,Q .normal E H->K E H)->(∀E H b c,kM kl E H b c->K b c->K E H)->fz P kl n B l.toArray K (fv P kl n l l ⟨E,H,True⟩)):Wp P kl n B (.region id l.toArray false) Q E H:=by
 let K:ey->List Ob->Prop:=fun E H=>B.G0.length=kl.length->∀a w,Rel (cx P kl n B) E H a w->∃b c,Q .normal b c/\Rel (cx P kl n B) b c a w;have j:=dF (id:=id) (Q:=zz K Q) (h K (fun E H i _ a w d=>⟨E,H,i,d⟩) (fun E H b c k m f a w d=>m f a w (Rel.cut f d k)));intro f a w d;refine wp_mono (j f a w d) ?_;intro e o p ⟨b,c,i,g⟩;cases e <;> first|exact i f o p g|exact⟨b,c,i,g⟩
attribute [go_sem] B6 tm Kr LS Cf
end
end Go.Vc
namespace Go.Proofs
open Go.Shelf Go.RowKit
variable {P:Program} {ρ:Ren}
set_option maxHeartbeats 2000000 in
set_option maxRecDepth 1000000 in
theorem Any.grow_row(L:Lays.n241 P ρ)(X:Builder.Extra P ρ)(b n l c:Nat)(a:Option Addr)(cs:List Value)(w:World)
  (h:w.heap[b]?=some (.cells #[.pointer (some ⟨b,0,none⟩),.slice a l c] (ρ.t 72) (0,0)))
  (D:cs.length=l) (R:∀v∈cs,v.oneCell'=true)
  (r:l=0∨∃g k T A,a=some ⟨g,0,none⟩/\w.heap[g]?=some (.cells k T A)/\k.toList.take l=cs)
  (s:2*c+n<=281474976710656) (S:l<=c) :
  Calls P (ρ.f 241) #[.pointer (some ⟨b,0,none⟩),.int .i64 n] w fun e m=>e=.returned (.tuple #[])/\∃u:Array Value,m.os=w.os/\m.tape=w.tape/\m.output=w.output /\
   2*c+n<=u.size/\u.size<=maxLen/\u.toList.take l=cs/\m.heap.size=w.heap.size+1/\(∀i,i<w.heap.size->i≠b->m.heap[i]?=w.heap[i]?) /\
   m.heap[w.heap.size]?=some (.cells u (ρ.t 5) (0,0))/\m.heap[b]?=some (.cells #[.pointer (some ⟨b,0,none⟩),.slice (some ⟨w.heap.size,0,none⟩) l u.size] (ρ.t 72) (0,0)):=by
 obtain⟨d,x,U,y⟩:=Lib.run_makeNoZero (P:=P) w.drew #[(ρ.t 3)] (ρ.t 37) (ρ.t 5) L.t37 (2*c+n) s;have N:IntKind.i64.wrap (IntKind.i64.wrap (2*(c:Int))+(n:Int))=((2*c+n:Nat):Int):=by rw[IntKind.wrap_i64,IntKind.wrap_i64];omega
 have E:(callFunc (ρ.f 277) #[.int .i64 (IntKind.i64.wrap (IntKind.i64.wrap (2*(c:Int))+(n:Int)))]).run P w.drew=.ok (.value (.slice (some ⟨w.drew.heap.size,0,none⟩) (2*c+n) d.size)) (w.drew.drew.drew.alloc (.cells d (ρ.t 5))):=by rw[N,run_callFunc_extern L.f277 (by kernel_rfl) (by kernel_rfl) (by kernel_rfl) (e:=Extern.BytealgMakeNoZero.makeNoZero #[(ρ.t 3)] #[(ρ.t 37)]) (by kernel_rfl),x];rfl
 have c1:w.drew.cell? ⟨b,1,none⟩=some (.slice a l c):=by
  have:w.drew.heap[b]?=_:=h;rw[Lib.cell_of_heap this];rfl
 have o:b<w.heap.size:=by
  rcases Nat.lt_or_ge b w.heap.size with p|p
  .exact p
  .simp[Array.getElem?_eq_none p]at h
 have c2:(w.alloc (.cells d (ρ.t 5))).cell? ⟨b,1,none⟩=some (.slice a l c):=by
  have:(w.alloc (.cells d (ρ.t 5))).heap[b]?=_:=(Lib.alloc_old w _ b o).trans h;rw[Lib.cell_of_heap this];rfl
 have f2:(w.alloc (.cells d (ρ.t 5))).frozen? ⟨b,1,none⟩=false :=
  Lib.frozen_of_heap ((Lib.alloc_old w _ b o).trans h) 1
 have B:(((w.alloc (.cells d (ρ.t 5))).drew.drew.drew).setRow w.heap.size (cs++d.toList.drop l).toArray).heap[b]?=some (.cells #[.pointer (some ⟨b,0,none⟩),.slice a l c] (ρ.t 72) (0,0)) :=
  (setRow_other _ _ _ _ (by omega)).trans ((Lib.alloc_old w _ b o).trans h)
 have V:(((w.alloc (.cells d (ρ.t 5))).drew.drew.drew).setRow w.heap.size (cs++d.toList.drop l).toArray).cell? ⟨b,1,none⟩=some (.slice a l c):=by rw[Lib.cell_of_heap B];rfl
 have f3:(((w.alloc (.cells d (ρ.t 5))).drew.drew.drew).setRow w.heap.size (cs++d.toList.drop l).toArray).frozen? ⟨b,1,none⟩=false:=Lib.frozen_of_heap B 1;clear N;have Y:l<=d.size:=by omega
 have Z:d.size<=maxLen:=y (by unfold maxLen;omega);have q:∀W:World,W.heap=(w.alloc (.cells d (ρ.t 5))).heap->(Builtin.copy_ #[(ρ.t 37),(ρ.t 37)] (ρ.t 3) #[.slice (some ⟨w.heap.size,0,none⟩) l d.size,.slice a l c]).run P W=.ok (goInt l) (W.setRow w.heap.size (cs++d.toList.drop l).toArray):=by
  intro W O;have Q:W.heap[w.heap.size]?=some (.cells d (ρ.t 5) (0,0)):=by rw[O];exact heap_alloc_new w _
  rcases r with h0|⟨g,k,T,A,rfl,z,F⟩
  .have G:cs=[]:=length_eq_zero_iff.1 (by omega);subst h0;subst G;rw[run_copy_none W (ρ.t 37) (ρ.t 37) (ρ.t 3) (ρ.t 5) _ _ 0 d.size 0 c L.t37 X.sizeByte rfl];simp only[nil_append,drop_zero,Array.toArray_toList];rw[setRow_self W w.heap.size d (ρ.t 5) (0,0) Q];rfl
  .have H:g<w.heap.size:=by
    rcases Nat.lt_or_ge g w.heap.size with p|p
    .exact p
    .simp[Array.getElem?_eq_none p]at z
   have I:W.heap[g]?=some (.cells k T A):=by rw[O];exact(Lib.alloc_old w _ g H).trans z
   have:=run_copy_row (P:=P) W (ρ.t 37) (ρ.t 37) (ρ.t 3) (ρ.t 5) w.heap.size 0 l d.size ⟨g,0,none⟩ l c d (ρ.t 5) cs L.t37 X.sizeByte Q (by rw[D];exact(Nat.min_self l).symm) (fun j v C=>?_) (by omega) R
   .rw[this,D];simp
   .rw[show(⟨g,0,none⟩:Addr).add j=⟨g,0+j,none⟩from by cases j <;> simp[Addr.add],cell_of_row W g (0+j) k T A I,Nat.zero_add];rw[<-F,getElem?_take]at C;split at C
    .rw[<-Array.getElem?_toList];exact C
    .cases C
 have J:=L.mixed;have t72:=L.t72;have a72:=L.a72;have z72:=L.z72;have v72:=L.v72;have u72:=run_underlying L.t72;have t70:=L.t70;have a70:=L.a70;have z70:=L.z70;have v70:=L.v70;have u70:=run_underlying L.t70;have t37:=L.t37;have a37:=L.a37;have z37:=L.z37;have v37:=L.v37;have u37:=run_underlying L.t37;have t3:=L.t3;have a3:=L.a3;have z3:=L.z3;have v3:=L.v3;have u3:=run_underlying L.t3;have t5:=X.t5;have a5:=X.a5;have z5:=X.z5;have v5:=X.v5;have u5:=run_underlying X.t5
 go_enter L.f241,Body.n241_ntmps ρ
 go_wp2
 go_region_o
 all_goals go_wp2
 all_goals rw[q ((w.alloc (.cells d (ρ.t 5))).drew.drew.drew) rfl]
 all_goals simp only[Result.andThen]
 all_goals rw[Oper.upon_value]
 all_goals go_wp2
 all_goals go_end0
 all_goals
  have K:(cs++d.toList.drop l).toArray.size=d.size:=by simp;omega
  have hsz:w.heap.size<(w.alloc (.cells d (ρ.t 5))).heap.size:=by rw[World.size_alloc];omega
  rw[setCell_eq_setRow _ b 1 _ _ _ _ B];refine⟨rfl,(cs++d.toList.drop l).toArray,rfl,rfl,rfl,by omega,by omega,by simp[<-D],?_,fun i hi M=>?_,?_,?_⟩
  .simp
  .rw[setRow_other _ _ _ _ M,setRow_other _ _ _ _ (by omega)];exact heap_alloc_old w _ hi
  .rw[setRow_other _ _ _ _ (by omega)];exact setRow_heap _ _ d _ _ _ (heap_alloc_new w _)
  .rw[setRow_heap _ _ _ _ _ _ B,K];rfl
end Go.Proofs
namespace Go.Proofs
open Go.Shelf Go.RowKit
variable {P:Program} {ρ:Ren}
set_option maxHeartbeats 2000000 in
set_option maxRecDepth 1000000 in
theorem Any.Grow_used(L:Lays.n165 P ρ)(X:Builder.Extra P ρ)(b n l c:Nat)(a:Option Addr)(cs:List Value)(x w:World)
  (Q:∀W:World,(W=x∨W=x.drew)->Calls P (ρ.f 240) #[.pointer (some ⟨b,0,none⟩)] W fun e d=>e=.returned (.tuple #[])/\d.heap=w.heap/\d.os=w.os/\d.tape=w.tape/\d.output=w.output)
  (y:w.heap[b]?=some (.cells #[.pointer (some ⟨b,0,none⟩),.slice a l c] (ρ.t 72) (0,0)))
  (R:cs.length=l) (S:∀v∈cs,v.oneCell'=true)
  (s:l=0∨∃g k T z,a=some ⟨g,0,none⟩/\w.heap[g]?=some (.cells k T z)/\k.toList.take l=cs)
  (hn:n<=274877906944) (E:l<=274877906944) (A:l<=c) (hc:c<=9223372036854775807) :
  Calls P (ρ.f 165) #[.pointer (some ⟨b,0,none⟩),.int .i64 n] x fun e d=>e=.returned (.tuple #[])/\d.os=w.os/\d.tape=w.tape/\d.output=w.output/\(∀i,i<w.heap.size->i≠b->d.heap[i]?=w.heap[i]?) /\
   (d.heap.size=w.heap.size/\d.heap[b]?=some (.cells #[.pointer (some ⟨b,0,none⟩),.slice a l c] (ρ.t 72) (0,0)) ∨
    ∃m:Array Value,l<=m.size/\0<m.size/\m.size<=maxLen/\m.toList.take l=cs/\d.heap.size=w.heap.size+1/\d.heap[w.heap.size]?=some (.cells m (ρ.t 5) (0,0)) /\
     d.heap[b]?=some (.cells #[.pointer (some ⟨b,0,none⟩),.slice (some ⟨w.heap.size,0,none⟩) l m.size] (ρ.t 72) (0,0))):=by
 have B:=L.mixed;have U:=L.t72;have V:=L.a72;have Y:=L.z72;have Z:=L.v72;have u72:=run_underlying L.t72;have t70:=L.t70;have a70:=L.a70;have z70:=L.z70;have v70:=L.v70;have u70:=run_underlying L.t70;have t37:=L.t37;have a37:=L.a37;have z37:=L.z37;have v37:=L.v37;have u37:=run_underlying L.t37;have t3:=L.t3;have a3:=L.a3;have z3:=L.z3;have v3:=L.v3;have u3:=run_underlying L.t3;have t9:=L.t9;have a9:=L.a9;have z9:=L.z9;have v9:=L.v9;have u9:=run_underlying L.t9;have t4:=L.t4;have a4:=L.a4;have z4:=L.z4;have v4:=L.v4;have u4:=run_underlying L.t4;have F:=L.t164;have G:=L.a164;have H:=L.z164;have I:=L.v164;have J:=run_underlying L.t164;have t5:=X.t5;have a5:=X.a5;have z5:=X.z5;have v5:=X.v5;have u5:=run_underlying X.t5;have K:∀args w,(callFunc (ρ.f 240) args).run P w=.ok (.enter (ρ.f 240) args) w:=enters_of L.f240 (by kernel_rfl) rfl;have M:∀args w,(callFunc (ρ.f 241) args).run P w=.ok (.enter (ρ.f 241) args) w:=enters_of L.f241 (by kernel_rfl) rfl
 go_enter L.f165,Body.n165_ntmps ρ
 go_wp2_with (go_at_fn (ρ.f 240);refine(Q _ (by first|exact .inl rfl|exact .inr rfl)).mono ?_;rintro e p ⟨rfl,j,N,O,o⟩)
 have q:p.heap[b]?=some (.cells #[.pointer (some ⟨b,0,none⟩),.slice a l c] (ρ.t 72) (0,0)):=by rw[j];exact y
 have c1:p.cell? ⟨b,1,none⟩=some (.slice a l c):=by rw[Lib.cell_of_heap q];rfl
 have c1':p.drew.cell? ⟨b,1,none⟩=some (.slice a l c):=c1
 go_region_o
 have r:c<l+n->∀W:World,(W=p.drew∨W=p.drew.drew)->Calls P (ρ.f 241) #[.pointer (some ⟨b,0,none⟩),.int .i64 n] W _:=fun hlt W u=>Any.grow_row { L with } X b n l c a cs W (by rcases u with rfl|rfl <;> exact q) R S (by
  rcases s with h|⟨g,k,T,z,h2,h3,h4⟩
  .exact .inl h
  .exact .inr ⟨g,k,T,z,h2,by rcases u with rfl|rfl <;> exact(congrArg (fun h:Array Obj=>h[g]?) j).trans h3,h4⟩) (by omega) A
 go_wp2_with (go_at_fn (ρ.f 241);refine(r (by omega) _ (by first|exact .inl rfl|exact .inr rfl)).mono ?_;rintro e w2 ⟨rfl,m,q1,q2,q3,q4,q5,q6,q7,q8,q9,C⟩)
 .go_end0
  have u:(p.drew).heap=w.heap:=j;refine⟨rfl,q1.trans N,q2.trans O,q3.trans o,fun i hi D=>?_,.inr ⟨m,by omega,by omega,q5,q6,?_,?_,?_⟩⟩
  .rw[q8 i (by first|exact u ▸ hi|exact(show(p.drew.drew).heap=w.heap from j) ▸ hi) D];exact congrArg (fun h:Array Obj=>h[i]?) j
  .rw[q7];exact congrArg (fun h:Array Obj=>h.size+1) j
  .rw[<-j];exact q9
  .rw[<-j];exact C
 .go_end0
  exact⟨rfl,N,O,o,fun i _ _=>congrArg (fun h:Array Obj=>h[i]?) j,.inl ⟨congrArg Array.size j,q⟩⟩
theorem Any.Grow(L:Lays.n165 P ρ)(X:Builder.Extra P ρ)(b n l c:Nat)(a:Option Addr)(cs:List Value)(p:Value)(w:World)
  (N:p=.pointer none∨p=.pointer (some ⟨b,0,none⟩))
  (j:w.heap[b]?=some (.cells #[p,.slice a l c] (ρ.t 72) (0,0)))
  (H:cs.length=l) (D:∀v∈cs,v.oneCell'=true)
  (m:l=0∨∃g d T x,a=some ⟨g,0,none⟩/\g≠b/\w.heap[g]?=some (.cells d T x)/\d.toList.take l=cs)
  (I:n<=274877906944) (o:l<=274877906944) (y:l<=c) (J:c<=9223372036854775807) :
  Calls P (ρ.f 165) #[.pointer (some ⟨b,0,none⟩),.int .i64 n] w fun e w'=>e=.returned (.tuple #[])/\w'.os=w.os/\w'.tape=w.tape/\w'.output=w.output/\(∀i,i<w.heap.size->i≠b->w'.heap[i]?=w.heap[i]?) /\
   (w'.heap.size=w.heap.size/\w'.heap[b]?=some (.cells #[.pointer (some ⟨b,0,none⟩),.slice a l c] (ρ.t 72) (0,0)) ∨
    ∃s:Array Value,l<=s.size/\0<s.size/\s.size<=maxLen/\s.toList.take l=cs/\w'.heap.size=w.heap.size+1/\w'.heap[w.heap.size]?=some (.cells s (ρ.t 5) (0,0)) /\
     w'.heap[b]?=some (.cells #[.pointer (some ⟨b,0,none⟩),.slice (some ⟨w.heap.size,0,none⟩) l s.size] (ρ.t 72) (0,0))):=by
 rcases N with rfl|rfl
 .have q:w.setCell ⟨b,0,none⟩ (.pointer (some ⟨b,0,none⟩))=w.setRow b #[.pointer (some ⟨b,0,none⟩),.slice a l c]:=by rw[setCell_eq_setRow w b 0 _ _ _ _ j];rfl
  have F:(w.setCell ⟨b,0,none⟩ (.pointer (some ⟨b,0,none⟩))).heap[b]?=some (.cells #[.pointer (some ⟨b,0,none⟩),.slice a l c] (ρ.t 72) (0,0)):=by rw[q];exact setRow_heap _ _ _ _ _ _ j
  have K:∀i,i≠b->(w.setCell ⟨b,0,none⟩ (.pointer (some ⟨b,0,none⟩))).heap[i]?=w.heap[i]?:=fun i hi=>by rw[q];exact setRow_other _ _ _ _ hi
  have G:(w.setCell ⟨b,0,none⟩ (.pointer (some ⟨b,0,none⟩))).heap.size=w.heap.size:=by rw[q];exact setRow_size _ _ _
  refine(Any.Grow_used L X b n l c a cs w (w.setCell ⟨b,0,none⟩ (.pointer (some ⟨b,0,none⟩))) ?_ F H D ?_ I o y J).mono ?_
  .intro W z;have r:W.heap=w.heap:=by rcases z with rfl|rfl <;> rfl
   have k:W.heap[b]?=some (.cells #[.pointer none,.slice a l c] (ρ.t 72) (0,0)):=by rw[r];exact j
   refine(Any.Builder_copyCheck_fresh { L with } X.toX72 b W (by rw[Lib.cell_of_heap k];rfl) (by simp[World.shape?,k]) (Lib.frozen_of_heap k 0)).mono ?_;rintro e w' ⟨rfl,rfl⟩;rcases z with rfl|rfl <;> exact⟨rfl,rfl,rfl,rfl,rfl⟩
  .rcases m with h|⟨g,d,T,x,A,E,B,u⟩
   .exact .inl h
   .exact .inr ⟨g,d,T,x,A,(K g E).trans B,u⟩
  .rintro e w' ⟨D,A,E,B,u,M⟩;rw[G]at u M;exact⟨D,A,E,B,fun i hi C=>(u i hi C).trans (K i C),M⟩
 .refine(Any.Grow_used L X b n l c a cs w w ?_ j H D ?_ I o y J).mono fun e w' h=>h
  .intro W z;have r:W.heap=w.heap:=by rcases z with rfl|rfl <;> rfl
   have k:W.heap[b]?=some (.cells #[.pointer (some ⟨b,0,none⟩),.slice a l c] (ρ.t 72) (0,0)):=by rw[r];exact j
   refine(Any.Builder_copyCheck_used { L with } X.toX72 b W (by rw[Lib.cell_of_heap k];rfl)).mono ?_;rintro e w' ⟨rfl,rfl⟩;rcases z with rfl|rfl <;> exact⟨rfl,rfl,rfl,rfl,rfl⟩
  .rcases m with h|⟨g,d,T,x,A,E,B,u⟩
   .exact .inl h
   .exact .inr ⟨g,d,T,x,A,B,u⟩
end Go.Proofs
namespace Go.Vc
open Go.Proofs Go.Shelf
variable [Tabs] {P:Program} {ρ:Ren}
theorem tL(bs:List UInt8):∀v∈bs.map mx,v.oneCell'=true:=by intro v a;obtain⟨x,_,rfl⟩:=mem_map.1 a;rfl
theorem Does.grow(L:Lays.n165 P ρ)(X:Builder.Extra P ρ)(n:Nat)(bs:List UInt8)(hn:n<=274877906944)(J:¬ Tabs.mono:=by exact fun h=>h) :
  Does P (ρ.f 165) [.ptr 0 0,.p (.i .i64 n)] [.cells (ρ.t 72) [.np 0,.buf 1],.sb (ρ.t 5) bs] (fun r Y=>r=.tup []/\Y=[.cells (ρ.t 72) [.np 0,.buf 1],.sb (ρ.t 5) bs]):=by
 refine⟨⟨_,L.f165,by kernel_rfl,by kernel_rfl⟩,fun K G w vals I W=>?_⟩;simp only[VRs,VR,DR]at W;obtain⟨c0,r0,rfl,⟨g0,b,j,d,rfl⟩,c1,r1,rfl,⟨rfl,Z⟩,rfl⟩:=W;obtain⟨b',cs,q1,q2,q3⟩:=I.ob 0 g0 _ j rfl;obtain rfl:b=b':=Option.some.inj (d.symm.trans q1);simp only[VRs,VR]at q3;obtain⟨p,rr,rfl,hp,sv,rr',rfl,⟨g1,k,rfl,a,l,c,q⟩,rfl⟩:=q3;have O:p=.pointer none∨p=.pointer (some ⟨b,0,none⟩):=by
  rcases hp with h|⟨g,b2,h1,h2,h3⟩
  .exact .inl h
  .rw[j]at h1;cases h1;rw[d]at h2;cases h2;exact .inr h3
 obtain⟨y,hh⟩:=I.ob 1 g1 _ k rfl;have s:bs.length=l/\l<=c/\c<=9223372036854775807/\(l=0∨∃g u T Q,a=some ⟨g,0,none⟩/\g≠b/\w.heap[g]?=some (.cells u T Q)/\u.toList.take l=bs.map mx):=by
  rcases hh with⟨D,rfl,_⟩|⟨gb,cap,u,Q,D,e2,e3,e4,e5,e6,e7,e8,e9⟩
  .rw[q]at D;cases D;exact⟨rfl,by omega,by omega,.inl rfl⟩
  .rw[q]at D;cases D;refine⟨rfl,e5,by simp only[maxLen]at e7;omega,.inr ⟨gb,u,_,Q,rfl,?_,e3,e9⟩⟩;rintro rfl;have:=I.inj 0 1 g0 g1 _ j k d e2;omega
 obtain⟨N,R,hc,s⟩:=s;have E:l<=274877906944:=by rw[<-N];exact y
 refine(Any.Grow L X b n l c a (bs.map mx) p w O (by rw[q]at q2;exact q2) (by simpa using N) (tL bs) s hn E R hc).mono ?_;rintro e w' ⟨rfl,ho,ht,z,M,F⟩;have hl0:0<G.length:=(List.getElem?_eq_some_iff.1 j).1;have S:1<G.length:=(List.getElem?_eq_some_iff.1 k).1;rcases F with⟨v,U⟩|⟨o,x1,x2,x3,x4,v,x5,x6⟩
 .have A:∀i,i≠b->w'.heap[i]?=w.heap[i]?:=by
   intro i hi;rcases Nat.lt_or_ge i w.heap.size with h|h
   .exact M i h hi
   .rw[Array.getElem?_eq_none h,Array.getElem?_eq_none (by omega)]
  refine⟨.tuple #[],.tup [],_,K,G,rfl,⟨rfl,rfl⟩,Ext.modA _ j d ho ⟨ht,fun m=>(J m).elim⟩ z v A,I.modA j d v A (x:=.cells (ρ.t 72) [.np 0,.buf 1]) ?_,?_,?_⟩
  .refine⟨b,[.pointer (some ⟨b,0,none⟩),.slice a l c],d,U,?_⟩;simp only[VRs,VR];exact⟨_,_,rfl,.inr ⟨g0,b,j,d,rfl⟩,_,_,rfl,⟨g1,k,q.symm,a,l,c,q⟩,rfl⟩
  .simp only[VR,VRs];exact⟨[],rfl,rfl⟩
  .exact F4 _
 .have H:(G.set 1 ⟨some w.heap.size,.slice (some ⟨w.heap.size,0,none⟩) l o.size,[]⟩)[0]?=some g0:=by rw[getElem?_set_ne (by omega)];exact j
  have V:(G.set 1 ⟨some w.heap.size,.slice (some ⟨w.heap.size,0,none⟩) l o.size,[]⟩)[1]?=some ⟨some w.heap.size,.slice (some ⟨w.heap.size,0,none⟩) l o.size,[]⟩:=getElem?_set_self S;have hblt:=(I.gb 0 g0 b j d).1;have s1:=I.modB k (w':=w.alloc (.cells o (ρ.t 5))) (g1:=⟨some w.heap.size,.slice (some ⟨w.heap.size,0,none⟩) l o.size,[]⟩) (x:=.sb (ρ.t 5) bs) (by rw[World.size_alloc];omega) (fun i hi _=>heap_alloc_old w _ hi) (fun i hi=>by obtain rfl:=yx hi;rw[World.size_alloc];exact⟨by omega,.inr (Nat.le_refl _)⟩) ⟨y,.inr ⟨w.heap.size,o.size,o,(0,0),by rw[N],rfl,heap_alloc_new w _,.inl rfl,by omega,x2,x3,rfl,by rw[N];exact x4⟩⟩;have D:=Ext.modB (K:=K) (kp:=eI (kinds [.cells (ρ.t 72) [.np 0,.buf 1],.sb (ρ.t 5) bs])) (w:=w) (w':=w.alloc (.cells o (ρ.t 5))) k (g1:=⟨some w.heap.size,.slice (some ⟨w.heap.size,0,none⟩) l o.size,[]⟩) rfl rfl ⟨rfl,fun _=>Nat.le_refl _⟩ rfl (by rw[World.size_alloc];omega) (fun i hi _=>heap_alloc_old w _ hi) (fun i hi=>by obtain rfl:=yx hi;exact .inr (Nat.le_refl _));have B:w'.heap.size=(w.alloc (.cells o (ρ.t 5))).heap.size:=by rw[World.size_alloc,v]
  have C:∀i,i≠b->w'.heap[i]?=(w.alloc (.cells o (ρ.t 5))).heap[i]?:=by
   intro i hi;rcases Nat.lt_trichotomy i w.heap.size with h|h|h
   .rw[heap_alloc_old w _ h];exact M i h hi
   .subst h;rw[heap_alloc_new w _];exact x5
   .rw[Array.getElem?_eq_none (by omega),Array.getElem?_eq_none (by rw[World.size_alloc];omega)]
  have s2:=s1.modA H d (w':=w') B C (x:=.cells (ρ.t 72) [.np 0,.buf 1]) (by
   refine⟨b,[.pointer (some ⟨b,0,none⟩),.slice (some ⟨w.heap.size,0,none⟩) l o.size],d,x6,?_⟩;simp only[VRs,VR];exact⟨_,_,rfl,.inr ⟨g0,b,H,d,rfl⟩,_,_,rfl,⟨_,V,rfl,_,_,_,rfl⟩,rfl⟩)
  refine⟨.tuple #[],.tup [],_,K,_,rfl,⟨rfl,rfl⟩,D.trans (Ext.modA _ H d ho ⟨ht,fun m=>(J m).elim⟩ z B C),s2,?_,F4 _⟩;simp only[VR,VRs];exact⟨[],rfl,rfl⟩
open Go.Proofs Go.Shelf
variable [Tabs]
section
variable {P:Program} {ρ:Ren}
theorem mX{K:Nat->Prop}{h:Array Obj}:∀{l:List (List UInt8)} {c:List Value},DRss K h 1 c (l.map fun x=>[Dt.s x])->c=l.map encStr/\∀x∈l,x.length<=eE
 |[],c,H=>by simp only[map_nil,DRss]at H;subst H;exact⟨rfl,by simp⟩
 |x::l,c,H=>by
  simp only[map_cons,DRss]at H;obtain⟨a,b,rfl,_,e,f⟩:=H;simp only[DRs,DR]at e;obtain⟨v,g,rfl,⟨rfl,i⟩,rfl⟩:=e;obtain⟨rfl,j⟩:=mX f;refine⟨rfl,fun y d=>?_⟩;rcases mem_cons.1 d with rfl|d
  .exact i
  .exact j y d
theorem rc{K:Nat->Prop}{h:Array Obj}:∀{l:List (List UInt8)},(∀x∈l,x.length<=eE)->DRss K h 1 (l.map encStr) (l.map fun x=>[Dt.s x])
 |[],_=>by simp only[map_nil,DRss]
 |x::l,a=>by simp only[map_cons,DRss,DRs,DR];exact⟨[encStr x],l.map encStr,rfl,rfl,⟨_,[],rfl,⟨rfl,a x (by simp)⟩,rfl⟩,rc fun y b=>a y (by simp[b])⟩
theorem Does.sortS(L:SlLaysM.n6 P ρ)(hc:F2 P (ρ.f 6))(T:TypeId)(l:List (List UInt8)) :
  Does P (ρ.f 6) [.buf 0] [.fx T 1 (l.map fun x=>[.s x])] (fun r Y=>r=.tup []/\Y=[.fx T 1 ((Vc.sortS l).map fun x=>[.s x])]):=by
 refine⟨hc,fun K G w vals E V=>?_⟩;simp only[VRs,VR]at V;obtain⟨c0,r0,rfl,⟨g,v,rfl,a0,n0,W,X⟩,rfl⟩:=V;obtain⟨d,xs,M,Z⟩:=E.ob 0 g _ v rfl;obtain⟨rfl,N⟩:=mX M;simp only[length_map]at d Z;have z:G.set 0 g=G:=by
  apply ext_getElem?;intro i;by_cases e:i=0
  .subst e;rw[getElem?_set_self (List.getElem?_eq_some_iff.1 v).1,v]
  .rw[getElem?_set_ne (Ne.symm e)]
 rcases Z with⟨⟨a,F⟩,H,A⟩|⟨b,p,c,I,F,H,A,h4,h5,h6,h7,h8⟩
 .have O:l=[]:=by simpa using H
  subst O;rw[F];refine(AnyM.slices_Sort_string_none L a 0 w).mono ?_;rintro e w' ⟨rfl,rfl⟩;refine⟨.tuple #[],.tup [],_,K,G,rfl,⟨rfl,rfl⟩,Ext.refl _ _ _ _,by simpa [Vc.sortS]using E,?_,by simpa [Vc.sortS]using F4 [.fx T 1 (([]:List (List UInt8)).map fun x=>[Dt.s x])]⟩;simp only[VR,VRs];exact⟨[],rfl,rfl⟩
 .have hb:b<w.heap.size:=(Array.getElem?_eq_some_iff.1 A).1;have hcs:p<=c.size:=by simpa using h7
  have q:∀j,j<l.length->c[j]?=some (encStr l[j]!):=by
   intro j J;have:(c.toList.take (l.length*1))[j]?=(l.map encStr)[j]?:=by rw[h8]
   rw[getElem?_take,if_pos (by omega),Array.getElem?_toList,getElem?_map,getElem?_eq_getElem J]at this;rw[this];simp[J]
  have hH:Sort.Holds encStr w b 0 l.toArray:=by
   intro j J;have Q:j<l.length:=by simpa using J
   refine⟨?_,?_⟩
   .rw[Nat.zero_add,cell_of_row w b j c T I A,q j Q];simp
   .have:=h4.out j (by omega);obtain⟨f1,f2⟩:=I;simp only[World.frozen?,A,Nat.zero_add]at this|-;simpa using this
  rw[F];refine(AnyM.slices_Sort_string L b 0 p l w hH hb (by simp only[eE]at d;omega)).mono ?_;rintro e w' ⟨rfl,y,k,rfl⟩;have t:=Sc l;have m:∀i,i<w.heap.size->(Sort.grow (Sort.putRow encStr (Sort.ahead w y) b 0 (Vc.sortS l).toArray) k).heap[i]?=if b=i then(w.heap[i]?).map (Sort.onCells (Sort.putCells encStr 0 (Vc.sortS l).toArray))else w.heap[i]?:=by
   intro i hi;show(((w.heap.modify b (Sort.onCells (Sort.putCells encStr 0 (Vc.sortS l).toArray)))++k):Array Obj)[i]?=_;rw[Array.getElem?_append_left (by simpa using hi),Array.getElem?_modify]
  have B:(Sort.grow (Sort.putRow encStr (Sort.ahead w y) b 0 (Vc.sortS l).toArray) k).heap[b]?=some (.cells (Sort.putCells encStr 0 (Vc.sortS l).toArray c) T I):=by rw[m b hb,if_pos rfl,A];rfl
  have R:∀i,i<w.heap.size->g.blk≠some i->(Sort.grow (Sort.putRow encStr (Sort.ahead w y) b 0 (Vc.sortS l).toArray) k).heap[i]?=w.heap[i]?:=by intro i hi S;rw[m i hi,if_neg (fun e=>S (by rw[H,e]))]
  have C:w.heap.size<=(Sort.grow (Sort.putRow encStr (Sort.ahead w y) b 0 (Vc.sortS l).toArray) k).heap.size:=by
   show w.heap.size<=((w.heap.modify b _)++k:Array Obj).size;simp
  have D:(Sort.putCells encStr 0 (Vc.sortS l).toArray c).size=c.size:=by simp[Sort.putCells]
  have u:(Sort.putCells encStr 0 (Vc.sortS l).toArray c).toList.take ((Vc.sortS l).length*1)=(Vc.sortS l).map encStr:=by
   apply ext_getElem?;intro i;rw[getElem?_take,getElem?_map];by_cases hi:i<(Vc.sortS l).length
   .rw[if_pos (by omega),Array.getElem?_toList];have:i<c.size:=by omega
    simp[Sort.putCells,this,hi]
   .rw[if_neg (by omega),getElem?_eq_none (by omega)];rfl
  have U:ObR K (Sort.grow (Sort.putRow encStr (Sort.ahead w y) b 0 (Vc.sortS l).toArray) k).heap (G.set 0 g) g (.fx T 1 ((Vc.sortS l).map fun x=>[.s x])):=by refine⟨by simpa [t]using d,_,rc (fun x U=>N x (by simpa [Vc.sortS]using U)),.inr ⟨b,p,_,I,by rw[F];simp[t],H,B,by rw[D];exact h4,by simpa [t]using h5,h6,by rw[D];exact h7,by simpa using u⟩⟩
  have n:=fun(i:Nat) (hi:i<w.heap.size) (h:¬ own g i)=>R i hi fun e=>h (.inl e);have s1:=E.modB v (g1:=g) C n (fun i hi=>⟨by have:=(E.gbo 0 g i v hi).1;omega,.inl hi⟩) U;rw[z]at s1;refine⟨.tuple #[],.tup [],_,K,G,rfl,⟨rfl,rfl⟩,?_,s1,?_,fun o ho=>?_⟩
  .have e1:=Ext.modB (K:=K) (w:=w) (kp:=fun _=>false) (w':=Sort.grow (Sort.putRow encStr (Sort.ahead w y) b 0 (Vc.sortS l).toArray) k) v rfl rfl ⟨rfl,fun _=>Nat.le_add_right _ _⟩ rfl C n (g1:=g) (fun i hi=>.inl hi);rw[z]at e1;exact { e1 with gsame:=fun _ _ _ h0=>h0 }
  .simp only[VR,VRs];exact⟨[],rfl,rfl⟩
  .cases o with
   |zero=>exact⟨_,rfl,rfl⟩
   |succ o=>simp[kinds,eI]at ho
end
open Go.Proofs
theorem HC:∀a:List UInt8,fb a a=0
 |[]=>by simp[fb,Lib.compareBytes]
 |x::a=>by have:=HC a;simp only[fb,Lib.compareBytes]at this|-;rw[if_neg (by simp),if_neg (by simp)];exact this
theorem Mt:∀a b:List UInt8,fb b a=- fb a b
 |[],[]=>by simp[fb,Lib.compareBytes]
 |[],_::_=>by simp[fb,Lib.compareBytes]
 |_::_,[]=>by simp[fb,Lib.compareBytes]
 |x::a,y::b=>by
  have:=Mt a b;simp only[fb,Lib.compareBytes]at this|-;by_cases c:x<y
  .rw[if_pos c,if_neg (UInt8.lt_asymm c),if_pos c];rfl
  .by_cases d:y<x
   .rw[if_pos d,if_neg c,if_pos d]
   .rw[if_neg d,if_neg c,if_neg c,if_neg d];exact this
theorem F3:∀{a b:List UInt8},fb a b=0->a=b
 |[],[],_=>rfl
 |[],_::_,h=>by simp[fb,Lib.compareBytes]at h
 |_::_,[],h=>by simp[fb,Lib.compareBytes]at h
 |x::a,y::b,h=>by
  simp only[fb,Lib.compareBytes]at h;by_cases c:x<y
  .rw[if_pos c]at h;cases h
  .by_cases d:y<x
   .rw[if_neg c,if_pos d]at h;cases h
   .rw[if_neg c,if_neg d]at h;rw[F3 (a:=a) (b:=b) h,UInt8.le_antisymm (UInt8.not_lt.1 d) (UInt8.not_lt.1 c)]
theorem OZ:∀{a b c:List UInt8},fb a b<=0->fb b c<=0->fb a c<=0
 |[],_,[],_,_=>by simp[fb,Lib.compareBytes]
 |[],_,_::_,_,_=>by simp[fb,Lib.compareBytes]
 |_::_,[],_,h,_=>by simp[fb,Lib.compareBytes]at h
 |_::_,_::_,[],_,h=>by simp[fb,Lib.compareBytes]at h
 |x::a,y::b,z::c,h,d=>by
  have i:=@OZ a b c;simp only[fb,Lib.compareBytes]at h d i|-;by_cases g:x<y
  .by_cases e:y<z
   .rw[if_pos (UInt8.lt_trans g e)];decide
   .by_cases f:z<y
    .rw[if_neg e,if_pos f]at d;simp at d
    .obtain rfl:=UInt8.le_antisymm (UInt8.not_lt.1 f) (UInt8.not_lt.1 e);rw[if_pos g];decide
  .by_cases e:y<x
   .rw[if_neg g,if_pos e]at h;simp at h
   .obtain rfl:=UInt8.le_antisymm (UInt8.not_lt.1 e) (UInt8.not_lt.1 g);rw[if_neg g,if_neg e]at h;by_cases f:x<z
    .rw[if_pos f];decide
    .by_cases j:z<x
     .rw[if_neg f,if_pos j]at d;simp at d
     .rw[if_neg f,if_neg j]at d|-;exact i h d
def rk(k:Int):Int:=if k=5 then 2 else if k=6 then 3 else 1
theorem B4(k:Int):1<=rk k/\rk k<=3:=by
 unfold rk;split
 .omega
 .split <;> omega
def gR(a:List UInt8)(k:Int)(p:List UInt8)(a':List UInt8)(k':Int)(p':List UInt8):Int:=if fb a a'≠0 then fb a a' else if rk k≠rk k' then rk k-rk k' else fb p p'
theorem BE(a:List UInt8)(k:Int)(p:List UInt8)(a':List UInt8)(k':Int)(p':List UInt8):gR a' k' p' a k p=- gR a k p a' k' p':=by
 unfold gR;have d:=Mt a a';have f:=Mt p p';by_cases e:fb a a'=0
 .have c:fb a' a=0:=by omega
  rw[if_neg (Decidable.not_not.2 e),if_neg (Decidable.not_not.2 c)];by_cases b:rk k=rk k'
  .rw[if_neg (Decidable.not_not.2 b),if_neg (Decidable.not_not.2 b.symm)];exact f
  .rw[if_pos b,if_pos (Ne.symm b)];omega
 .have c:fb a' a≠0:=by omega
  rw[if_pos e,if_pos c];exact d
theorem Pb{a:List UInt8}{k:Int}{p:List UInt8}{a':List UInt8}{k':Int}{p':List UInt8}(h:gR a k p a' k' p'=0):a=a'/\rk k=rk k'/\p=p':=by
 unfold gR at h;by_cases e:fb a a'=0
 .rw[if_neg (by omega)]at h;by_cases b:rk k=rk k'
  .rw[if_neg (by omega)]at h;exact⟨F3 e,b,F3 h⟩
  .rw[if_pos (by omega)]at h;omega
 .rw[if_pos (by omega)]at h;omega
theorem tE(a:List UInt8)(k:Int)(p:List UInt8):gR a k p a k p=0:=by unfold gR;rw[if_neg (by rw[HC];simp),if_neg (by simp),HC]
theorem Nb{a:List UInt8}{k:Int}{p:List UInt8}{a':List UInt8}{k':Int}{p':List UInt8}{b:List UInt8}{j:Int}{q:List UInt8}(h:gR a k p a' k' p'<=0)(c:gR a' k' p' b j q<=0):gR a k p b j q<=0:=by
 unfold gR at *;by_cases e:fb a a'=0
 .obtain rfl:=F3 e;rw[if_neg (by omega)]at h;by_cases f:fb a b=0
  .rw[if_neg (by omega)]at c|-;by_cases i:rk k=rk k'
   .rw[if_neg (by omega)]at h;by_cases d:rk k'=rk j
    .rw[if_neg (by omega)]at c|-;exact OZ h c
    .rw[if_pos (by omega)]at c|-;omega
   .rw[if_pos (by omega)]at h;by_cases d:rk k'=rk j
    .rw[if_pos (by omega)];omega
    .rw[if_pos (by omega)]at c;rw[if_pos (by omega)];omega
  .rw[if_pos (by omega)]at c|-;exact c
 .rw[if_pos (by omega)]at h;by_cases f:fb a' b=0
  .obtain rfl:=F3 f;rw[if_pos (by omega)];exact h
  .rw[if_pos (by omega)]at c;have:=OZ h c;by_cases g:fb a b=0
   .obtain rfl:=F3 g;have:=Mt a a';omega
   .rw[if_pos (by omega)];exact this
section
variable {α:Type} (f:α->List UInt8) (g:α->Int) (h:α->List UInt8)
theorem vc:Go.Sort.SWO (ltOf fun x y=>gR (f x) (g x) (h x) (f y) (g y) (h y)) where
 irrefl x:=by simp[ltOf,tE]
 trans x y z d h2:=by
  simp only[ltOf,decide_eq_true_eq]at *;have e:=Nb (Int.le_of_lt d) (Int.le_of_lt h2);rcases Int.lt_or_eq_of_le e with c|c
  .exact c
  .obtain⟨i,l,m⟩:=Pb c;have n:=BE (f x) (g x) (h x) (f y) (g y) (h y);have:gR (f y) (g y) (h y) (f x) (g x) (h x)=gR (f y) (g y) (h y) (f z) (g z) (h z):=by unfold gR;rw[i,l,m]
   omega
 ntrans x y z d h2:=by simp only[ltOf,decide_eq_false_iff_not,Int.not_lt]at *;have o:=BE (f x) (g x) (h x) (f y) (g y) (h y);have r:=BE (f y) (g y) (h y) (f z) (g z) (h z);have s:=BE (f x) (g x) (h x) (f z) (g z) (h z);have:=Nb (a:=f z) (k:=g z) (p:=h z) (a':=f y) (k':=g y) (p':=h y) (b:=f x) (j:=g x) (q:=h x) (by omega) (by omega);omega
end
open Go.Proofs Go.Shelf Go.RowKit
def rb:Dt->Value
 |.b x=>.bool x
 |.i k n=>.int k n
 |.s x=>.string ⟨x.toArray⟩
 |_=>.bool false
def N8:Dt->Bool
 |.b _=>true
 |.i _ _=>true
 |.s _=>true
 |_=>false
def B5:Dt->Prop
 |.b _=>True
 |.i k n=>Fits k n
 |.s x=>x.length<=eE
 |_=>False
theorem Mo{K:Nat->Prop}{h:Array Obj}:∀{d:Dt},B5 d->DR K h (rb d) d
 |.b _,_=>by simp only[DR,rb]
 |.i _ _,H=>by simp only[DR,rb];exact⟨trivial,H⟩
 |.s _,H=>by simp only[DR,rb];exact⟨trivial,H⟩
 |.l _,H|.a _,H|.r _,H=>H.elim
theorem Mq{K:Nat->Prop}{h:Array Obj}{c:Value}:∀{d:Dt},N8 d=true->DR K h c d->c=rb d/\B5 d
 |.b _,_,H=>by simp only[DR]at H;exact⟨H,trivial⟩
 |.i _ _,_,H=>by simp only[DR]at H;exact H
 |.s _,_,H=>by simp only[DR]at H;exact H
 |.l _,H,_|.a _,H,_|.r _,H,_=>by cases H
theorem qI{K:Nat->Prop}{h:Array Obj}:∀{r:List Dt},(∀d∈r,B5 d)->DRs K h (r.map rb) r
 |[],_=>by simp[DRs]
 |d::r,H=>by simp only[map_cons,DRs];exact⟨_,_,rfl,Mo (H d (by simp)),qI fun x a=>H x (by simp[a])⟩
theorem xO{K:Nat->Prop}{h:Array Obj}:∀{r:List Dt} {b:List Value},(∀d∈r,N8 d=true)->DRs K h b r->b=r.map rb/\∀d∈r,B5 d
 |[],b,_,H=>by simp only[DRs]at H;exact⟨H,fun d c=>by simp at c⟩
 |d::r,b,hs,H=>by
  simp only[DRs]at H;obtain⟨v,e,rfl,f,g⟩:=H;obtain⟨i,j⟩:=Mq (hs d (by simp)) f;obtain⟨k,l⟩:=xO (fun x a=>hs x (by simp[a])) g;refine⟨by rw[i,k];rfl,fun x a=>?_⟩;rcases mem_cons.1 a with rfl|a
  .exact j
  .exact l x a
section
variable {α:Type} (e:α->List Dt) (k:Nat)
theorem sw{K:Nat->Prop}{h:Array Obj}(a:∀x,(e x).length=k):∀{l:List α},(∀x∈l,∀d∈e x,B5 d)->DRss K h k (l.map fun x=>(e x).map rb).flatten (l.map e)
 |[],_=>by simp[DRss]
 |x::l,H=>by simp only[map_cons,flatten_cons,DRss];exact⟨_,_,rfl,a x,qI (H x (by simp)),sw a fun y b=>H y (by simp[b])⟩
theorem sx{K:Nat->Prop}{h:Array Obj}(hs:∀x,∀d∈e x,N8 d=true):∀{l:List α} {c:List Value},DRss K h k c (l.map e)->c=(l.map fun x=>(e x).map rb).flatten/\∀x∈l,∀d∈e x,B5 d
 |[],c,H=>by simp only[map_nil,DRss]at H;exact⟨H,fun x g=>by simp at g⟩
 |x::l,c,H=>by
  simp only[map_cons,DRss]at H;obtain⟨a,b,rfl,_,i,j⟩:=H;obtain⟨m,n⟩:=xO (hs x) i;obtain⟨o,p⟩:=sx hs j;refine⟨by rw[m,o];rfl,fun y f=>?_⟩;rcases mem_cons.1 f with rfl|f
  .exact n
  .exact p y f
end
theorem oe{β:Type}{k:Nat}(a:0<k):∀(L:List (List β)) (t:Nat),(∀r∈L,r.length=k)->L.flatten[t]?=(L[t / k]?).bind fun r=>r[t % k]?
 |[],t,_=>by simp
 |r::L,t,h=>by
  have c:=h r (by simp);have d:=oe a L (t-k) fun x e=>h x (by simp[e]);rw[flatten_cons];by_cases b:t<k
  .rw[getElem?_append_left (by omega),Nat.div_eq_of_lt b,Nat.mod_eq_of_lt b];simp
  .rw[getElem?_append_right (by omega),c,d]
   have f:t / k=(t-k) / k+1:=by
    conv=>lhs;rw[show t=(t-k)+k by omega]
    exact Nat.add_div_right _ a
   have g:t % k=(t-k) % k:=by
    conv=>lhs;rw[show t=(t-k)+k by omega]
    exact Nat.add_mod_right _ _
   rw[f,g];simp
theorem RL{α:Type}[Inhabited α](a:α->List Value)(k:Nat)(e:∀x,(a x).length=k)(d:Array α):(Go.Sort.flatK a k d).toList=(d.toList.map a).flatten:=by
 have i:((d.toList.map a).flatten).length=d.size*k:=by
  have:∀l:List α,((l.map a).flatten).length=l.length*k:=by
   intro l;induction l with
   |nil=>simp
   |cons x l j=>simp only[map_cons,flatten_cons,length_append,e,j,length_cons];rw[Nat.add_mul];omega
  simpa using this d.toList
 apply ext_getElem?;intro t;by_cases f:t<d.size*k
 .have g:0<k:=by
   rcases Nat.eq_zero_or_pos k with h|h
   .subst h;omega
   .exact h
  have b:t / k<d.size:=(Nat.div_lt_iff_lt_mul g).2 f;have c:t % k<(a d[t / k]).length:=by rw[e];exact Nat.mod_lt _ g
  rw[oe g _ _ (fun r m=>by obtain⟨x,_,rfl⟩:=mem_map.1 m;exact e x),getElem?_map];have n:=Go.Sort.get_flatK a k d t f;have o:(Go.Sort.flatK a k d).toList[t]?=some ((Go.Sort.flatK a k d)[t]!):=by
   rw[Array.getElem?_toList];have:t<(Go.Sort.flatK a k d).size:=by simpa using f
   rw[Array.getElem?_eq_getElem this,getElem!_pos _ t this]
  rw[o,n];have p:d.toList[t / k]?=some d[t / k]:=by rw[Array.getElem?_toList,Array.getElem?_eq_getElem b]
  rw[p,getElem!_pos d _ b,getElem!_pos (a d[t / k]) (t % k) c];simp only[Option.map_some,Option.bind_some];rw[getElem?_eq_getElem c]
 .rw[getElem?_eq_none (by simp;omega),getElem?_eq_none (by omega)]
theorem wE{W w':World}(a:w'.os=W.os)(c:w'.tape=W.tape)(d:w'.output=W.output)(hs:W.heap.size<=w'.heap.size)(hb:∀b,b<W.heap.size->w'.heap[b]?=W.heap[b]?)(j:W.drawn<=w'.drawn) :
  ∃q os',w'=Go.Sort.grow (W.drewN q) os':=by
 refine⟨w'.drawn-W.drawn,w'.heap.extract W.heap.size w'.heap.size,?_⟩;have e:w'.heap=W.heap++w'.heap.extract W.heap.size w'.heap.size:=by
  apply Array.ext_getElem?;intro i;rcases Nat.lt_or_ge i W.heap.size with h|h
  .rw[Array.getElem?_append_left h,hb i h]
  .rw[Array.getElem?_append_right h];rcases Nat.lt_or_ge i w'.heap.size with f|f
   .rw[Array.getElem?_extract];simp only[Nat.min_self];rw[if_pos (by omega),show W.heap.size+(i-W.heap.size)=i by omega]
   .rw[Array.getElem?_eq_none f,Array.getElem?_eq_none (by simp;omega)]
 obtain⟨p,r,s,t,k⟩:=w';obtain⟨l,m,n,o,g⟩:=W;simp only at a c d e j;subst a;subst c;subst d;unfold Go.Sort.grow World.drewN;simp only[World.mk.injEq,true_and,and_true];exact⟨e,by omega⟩
section
theorem dT{α:Type}(Q:Unit->Tabs)(hq:(Q ()).mono)(htb:∀b,(Q ()).tab b=none)(hif:∀b,(Q ()).ifc b=false)(L:SlLaysF0.n6 P ρ)(hc:F2 P (ρ.f 6))(k:Nat)(aE:∀w,(isAgg (ρ.t 24)).run P w=.ok true w)(zE:∀w,(Go.sizeOf (ρ.t 24)).run P w=.ok k w)
  (e:α->List Dt) (hk:∀x,(e x).length=k) (hsc:∀x,∀d∈e x,N8 d=true) (cf:α->α->Int) (hO:Go.Sort.SWO (ltOf cf)) (g:Nat) (eg:∀args w,(callFunc g args).run P w=.ok (.enter g args) w)
  (hcmp:∀x y,@Does (Q ()) P g [.agg ((e x).map .p),.agg ((e y).map .p)] [] fun r X=>r=.p (.i .i64 (cf x y))/\X=[]) (T:TypeId) (l:List α) (hnu:∀b,(Q ()).num b=false:=by exact fun _=>rfl) :
  Does P (ρ.f 6) [.buf 0,.fn g []] [.fx T k (l.map e)] fun r Y=>r=.tup []/\∃u:List α,u.Perm l/\u.Pairwise (fun x y=>¬ cf y x<0)/\Y=[.fx T k (u.map e)]:=by
 refine⟨hc,fun K G w vals hS hV=>?_⟩;simp only[VRs,VR]at hV;obtain⟨c0,r0,rfl,⟨D,hg,rfl,a0,n0,cap0,hsv0⟩,c1,r1,rfl,⟨cs,rfl,rfl⟩,rfl⟩:=hV;obtain⟨E,xs,hxs,hh⟩:=hS.ob 0 D _ hg rfl;obtain⟨hxe,W⟩:=sx e k hsc hxs;simp only[length_map]at E hh;have hg0:G.set 0 D=G:=by
  apply ext_getElem?;intro i;by_cases e:i=0
  .subst e;rw[getElem?_set_self (List.getElem?_eq_some_iff.1 hg).1,hg]
  .rw[getElem?_set_ne (Ne.symm e)]
 -- nothing to sort
 have H:l=[]->∀(p:Option Addr) (A:Nat),D.sv=.slice p 0 A->Calls P (ρ.f 6) [D.sv,Value.func (.func g) #[] ([]:List Value).toArray].toArray w fun e' w'=>∃c r X' K' G',e'=.returned c/\(r=Va.tup []/\∃u:List α,u.Perm l/\u.Pairwise (fun x y=>¬ cf y x<0)/\X'=[Ob.fx T k (u.map e)])/\Ext (eI (kinds [Ob.fx T k (l.map e)])) K G w K' G' w'/\St K' G' X' w'/\VR K' w'.heap G' c r/\gg (eI (kinds [Ob.fx T k (l.map e)])) X':=by
  intro hl p A hp;subst hl;rw[hp];refine(AnyF.slices_SortFunc_none L p A _ w).mono ?_;rintro e' w' ⟨rfl,rfl⟩;refine⟨.tuple #[],.tup [],_,K,G,rfl,⟨rfl,[],.refl _,.nil,rfl⟩,Ext.refl _ _ _ _,hS,?_,F4 [Ob.fx T k (([]:List α).map e)]⟩;simp only[VR,VRs];exact⟨[],rfl,rfl⟩
 rcases hh with⟨⟨a,M⟩,N,Z⟩|⟨b,A,s,fr,M,N,Z,h4,h5,h6,h7,h8⟩
 .exact H (by simpa using N) a 0 M
 .by_cases hl0:l=[]
  .exact H hl0 _ A (by rw[M,hl0];rfl)
  have hb:b<w.heap.size:=(Array.getElem?_eq_some_iff.1 Z).1
  -- the elements that are right
  let β:={ x:α // ∀d∈e x,B5 d };have:∃x0,x0∈l:=exists_mem_of_ne_nil l hl0;obtain⟨x0,hx0⟩:=this;letI:Inhabited β:=⟨⟨x0,W x0 hx0⟩⟩;let q:β->List Value:=fun x=>(e x.1).map rb;let lb:List β:=l.attach.map fun x=>⟨x.1,W x.1 x.2⟩;have hlb:lb.map (·.1)=l:=by
   show(l.attach.map fun x=>(⟨x.1,W x.1 x.2⟩:β)).map (·.1)=l;rw[map_map];exact attach_map_subtype_val l
  have hlen:lb.length=l.length:=by show(l.attach.map _).length=_;simp
  have hke:∀x:β,(q x).length=k:=fun x=>by show((e x.1).map rb).length=k;rw[length_map,hk]
  have hone:∀x:β,∀v∈q x,v.oneCell'=true:=by
   intro x v hv;obtain⟨d,hd,rfl⟩:=mem_map.1 hv;have:=hsc x.1 d hd;cases d <;> first|rfl|cases this
  have O:∀l2:List β,(l2.map q).flatten=((l2.map (·.1)).map fun x=>(e x).map rb).flatten:=fun l2=>by rw[map_map];rfl
  have hflat:(Go.Sort.flatK q k lb.toArray).toList=xs:=by
   rw[RL q k hke,hxe];show(lb.map q).flatten=_;rw[O,hlb]
  have B:lb.toArray.size=l.length:=by simpa using hlen
  have hH:Go.Sort.HoldsK q k w b 0 lb.toArray:=by
   intro j R;rw[Go.Sort.size_flatK,B]at R;have hjc:j<s.size:=Nat.lt_of_lt_of_le R (Nat.le_trans (Nat.mul_le_mul_right k h5) h7);refine⟨?_,?_⟩
   .rw[Nat.zero_add,cell_of_row w b j s T fr Z];have e1:(s.toList.take (l.length*k))[j]?=(Go.Sort.flatK q k lb.toArray).toList[j]?:=by rw[h8,hflat]
    rw[getElem?_take,if_pos R,Array.getElem?_toList,Array.getElem?_toList]at e1;rw[e1,Array.getElem?_eq_getElem (by rw[Go.Sort.size_flatK,B];exact R),getElem!_pos _ j (by rw[Go.Sort.size_flatK,B];exact R)];rfl
   .have:=h4.out j hjc;obtain⟨f1,f2⟩:=fr;simp only[World.frozen?,Z,Nat.zero_add]at this|-;simpa using this
  let cfb:β->β->Int:=fun x y=>cf x.1 y.1;have hOb:Go.Sort.SWO (ltOf cfb):=⟨fun x=>hO.irrefl x.1,fun x y z=>hO.trans x.1 y.1 z.1,fun x y z=>hO.ntrans x.1 y.1 z.1⟩;have hcl:CmpLays P g ([]:List Value).toArray q k cfb b 0 lb.toArray.size w:=by
   intro m os dk hdk x y;have hSt:@St (Q ()) (fun _=>False) [] [] (sortWorldK q k w b 0 m dk os):=by
    refine @St.mk (Q ()) _ _ _ _ rfl (fun b h=>h.elim) (fun o g b h=>by simp at h) (fun o o' g g' b h=>by simp at h) (fun o g x h=>by simp at h) ⟨fun b k' u h=>?_,fun b h=>?_,fun b h=>?_⟩
    .rw[htb b]at h;cases h
    .rw[hif b]at h;cases h
    .rw[hnu b]at h;cases h
   have hVR:∀z:β,VR (fun _=>False) (sortWorldK q k w b 0 m dk os).heap [] (.agg (q z).toArray) (.agg ((e z.1).map .p)):=by
    intro z;simp only[VR];refine⟨q z,rfl,?_⟩;have:=qI (K:=fun _=>False) (h:=(sortWorldK q k w b 0 m dk os).heap) z.2;show VRs _ _ _ ((e z.1).map rb) ((e z.1).map .p);revert this;generalize e z.1=row;intro this;induction row with
    |nil=>simp[VRs]
    |cons d row ih =>
     simp only[map_cons,DRs,VRs,VR]at this|-;obtain⟨v,vs,M,N,Z⟩:=this;injection M with e1 e2;subst e1;subst e2;exact⟨_,_,rfl,N,ih Z⟩
   have hv:VRs (fun _=>False) (sortWorldK q k w b 0 m dk os).heap [] [.agg (q x).toArray,.agg (q y).toArray] [.agg ((e x.1).map .p),.agg ((e y.1).map .p)]:=by simp only[VRs];exact⟨_,_,rfl,hVR x,_,_,rfl,hVR y,rfl⟩
   refine((hcmp x.1 y.1).2 _ _ _ _ hSt hv).mono ?_;rintro e' w' ⟨c,r,X',K',G',rfl,⟨rfl,rfl⟩,hX,hS',hvr,_⟩;simp only[VR,DR]at hvr;obtain⟨rfl,_⟩:=hvr;obtain⟨x1,x2,x3,x4,_,_,_,_,_,x10⟩:=hX;refine⟨rfl,wE x1 x2.1 x3 x4 (fun b' hb'=>x10 b' hb' fun o D h=>by simp at h) (x2.2 hq)⟩
  rw[M];have I:=AnyQ.slices_SortFunc L k aE zE q hke hone cfb hOb g ([]:List Value).toArray b 0 A lb.toArray w eg hcl hH hb (by rw[B];simp only[eE]at E;omega);rw[B]at I;refine I.mono ?_;rintro e' w' ⟨rfl,d',n,os,hp,hso,rfl⟩;obtain⟨J,_,hpm⟩:=hp;rw[B]at J;have hperm:d'.toList.Perm lb:=by
   have M:d'.extract 0 l.length=d':=by rw[<-J];exact Array.extract_size
   have N:lb.toArray.extract 0 l.length=lb.toArray:=by rw[<-B];exact Array.extract_size
   rw[M,N]at hpm;simpa using hpm
  let u:List α:=d'.toList.map (·.1);have C:u.length=l.length:=by show(d'.toList.map _).length=_;simp[J]
  have hok':∀x∈u,∀d∈e x,B5 d:=fun x hx=>by obtain⟨y,_,rfl⟩:=mem_map.1 hx;exact y.2
  have hpl:u.Perm l:=by
   have:=hperm.map (·.1)
   rwa [hlb]at this
  have hpw:u.Pairwise (fun x y=>¬ cf y x<0):=by
   rw[pairwise_map,pairwise_iff_getElem];intro i j hi R hij;have:=hso i j (Nat.zero_le _) hij (by have h9:j<d'.toList.length:=R;rw[Array.length_toList,J]at h9;exact h9);rw[getElem!_pos d' i (by simpa using hi),getElem!_pos d' j (by simpa using R)]at this;simpa [ltOf]using this
  generalize hF:Go.Sort.flatK q k d'=F;have hFs:F.size=l.length*k:=by rw[<-hF,Go.Sort.size_flatK,J]
  have hFl:F.toList=(u.map fun x=>(e x).map rb).flatten:=by rw[<-hF,RL q k hke,O]
  have hput0:Go.Sort.putRowK q k (Go.Sort.ahead w n) b 0 d'=Go.Sort.putRow id (Go.Sort.ahead w n) b 0 F:=by unfold Go.Sort.putRowK;rw[hF]
  have hW:sortWorldK q k w b 0 n d' os=Go.Sort.grow (Go.Sort.putRow id (Go.Sort.ahead w n) b 0 F) os:=by unfold sortWorldK;rw[hput0]
  rw[hW];have S:∀i,i<w.heap.size->(Go.Sort.grow (Go.Sort.putRow id (Go.Sort.ahead w n) b 0 F) os).heap[i]?=if b=i then(w.heap[i]?).map (Go.Sort.onCells (Go.Sort.putCells id 0 F))else w.heap[i]?:=by
   intro i hi;show(((w.heap.modify b (Go.Sort.onCells (Go.Sort.putCells id 0 F)))++os):Array Obj)[i]?=_;rw[Array.getElem?_append_left (by simpa using hi),Array.getElem?_modify]
  have hput:(Go.Sort.grow (Go.Sort.putRow id (Go.Sort.ahead w n) b 0 F) os).heap[b]?=some (.cells (Go.Sort.putCells id 0 F s) T fr):=by rw[S b hb,if_pos rfl,Z];rfl
  have hfr:∀i,i<w.heap.size->D.blk≠some i->(Go.Sort.grow (Go.Sort.putRow id (Go.Sort.ahead w n) b 0 F) os).heap[i]?=w.heap[i]?:=by intro i hi hib;rw[S i hi,if_neg (fun e=>hib (by rw[N,e]))]
  have U:w.heap.size<=(Go.Sort.grow (Go.Sort.putRow id (Go.Sort.ahead w n) b 0 F) os).heap.size:=by
   show w.heap.size<=((w.heap.modify b _)++os:Array Obj).size;simp
  have hpc:(Go.Sort.putCells id 0 F s).size=s.size:=by simp[Go.Sort.putCells]
  have hcap:l.length*k<=s.size:=Nat.le_trans (Nat.mul_le_mul_right k h5) h7;have htake:(Go.Sort.putCells id 0 F s).toList.take (u.length*k)=F.toList:=by
   apply ext_getElem?;intro i;rw[getElem?_take,C];by_cases hi:i<l.length*k
   .rw[if_pos hi,Array.getElem?_toList,Array.getElem?_toList];have h9:i<s.size:=by omega
    have h10:i<F.size:=by omega
    simp[Go.Sort.putCells,h9,h10]
   .rw[if_neg hi,getElem?_eq_none (by simp;omega)]
  have hx:ObR K (Go.Sort.grow (Go.Sort.putRow id (Go.Sort.ahead w n) b 0 F) os).heap (G.set 0 D) D (.fx T k (u.map e)):=by refine⟨by simpa [C]using E,F.toList,by rw[hFl];exact sw e k hk hok',.inr ⟨b,A,_,fr,by rw[M];simp[C],N,hput,by rw[hpc];exact h4,by simpa [C]using h5,h6,by rw[hpc];exact h7,by rw[length_map];exact htake⟩⟩
  have V:=fun(i:Nat) (hi:i<w.heap.size) (h:¬ own D i)=>hfr i hi fun e=>h (.inl e);have s1:=hS.modB hg (g1:=D) U V (fun i hi=>⟨by have:=(hS.gbo 0 D i hg hi).1;omega,.inl hi⟩) hx;rw[hg0]at s1;refine⟨.tuple #[],.tup [],_,K,G,rfl,⟨rfl,u,hpl,hpw,rfl⟩,?_,s1,?_,fun o ho=>?_⟩
  .have e1:=Ext.modB (K:=K) (w:=w) (kp:=fun _=>false) (w':=Go.Sort.grow (Go.Sort.putRow id (Go.Sort.ahead w n) b 0 F) os) hg rfl rfl ⟨rfl,fun _=>Nat.le_add_right _ _⟩ rfl U V (g1:=D) (fun i hi=>.inl hi);rw[hg0]at e1;exact { e1 with gsame:=fun _ _ _ h0=>h0 }
  .simp only[VR,VRs];exact⟨[],rfl,rfl⟩
  .cases o with
   |zero=>exact⟨_,rfl,rfl⟩
   |succ o=>simp[kinds,eI]at ho
end
def cE(es:List (Dt×List Dt))(cl:Nat)(d:Dt):Nat:=bif (jr es d).isSome then cl else cl+1
section
variable {P:Program} {kl:List Bool} {n:Nat} {B:Bs} {Q:Qt} {E:ey} {H:List Ob}
end
section
variable {C:Cx} {E:ey} {H:List Ob} {a:Act} {w:World}
end
section
variable {P:Program} {kl:List Bool} {n:Nat} {B:Bs} {ops:List Oper} {K:ey->List Ob->Prop} {l:Plan} {obs:List En} {E:ey} {H:List Ob}
end
section
variable {P:Program} {kl:List Bool} {n:Nat} {B:Bs} {Q:Qt} {E:ey} {H:List Ob}
end
def Qv(a:List Nat):Va->Option Va
 |.nils=>some .nils
 |v=>gX a v
def s0(a:List Nat):List Va->Option (List Va)
 |[]=>some []
 |v::b=>match Qv a v,s0 a b with
  |some u,some c=>some (u::c)
  |_,_=>none
theorem rf{K:Nat->Prop}{h:Array Obj}{G k:List Gh}{b:List Nat}(l:∀(j o:Nat),b[j]?=some o->k[j]?=G[o]?):∀{cs:List Value} {f d:List Va},s0 b f=some d->VRs K h G cs f->VRs K h k cs d
 |cs,[],d,a,e=>by simp only[s0]at a;cases a;simpa only[VRs]using e
 |cs,v::f,d,a,e=>by
  simp only[s0]at a;split at a
  .rename_i u n g p;cases a;simp only[VRs]at e|-;obtain⟨c,i,q,m,r⟩:=e;refine⟨c,i,q,?_,rf l p r⟩;cases v <;> first|exact vF l g m|skip
   simp only[Qv]at g;cases g;simpa only[VR]using m
  .cases a
section
variable {P:Program} {kl:List Bool} {n:Nat} {B:Bs} {ops:Array Oper} {K:ey->List Ob->Prop} {E:ey} {H:List Ob}
theorem dZ{o:Oper}{l:List Oper}{f:FuncId}{av args:List Va}{X:List Ob}{d:Va->List Ob->Prop}(b:List Nat)(hs:Does P f args X d)(t:Is (x7 E o) (some (f,av)))(u:Is (s0 b av) (some args))(i:Is (iI b H b) (some X))(e:jc H.length b=true)(j:ie n true E o)
  (g:∀r h,d r h->r.ok->fz P kl n B ops K (fv P kl n ops.toList l ⟨eP (fZ (fH b H) E) o.dst (fa b H.length r),fy (fF (fH b H) H) b (gi b H.length h),True⟩)):Rg P kl n B ops (o::l) E H K:=by
 obtain⟨c,v,p,q,x,s,y,rfl⟩:=NC t;obtain⟨z,A⟩:=qQ j q s;intro C a w Q D k;refine wpList_plain x fun M m=>?_;exact kB b hs q s A y (fun F G=>rf F u G) i e D fun N r h O I J L=>m _ _ (Rg.run (g r h I J) C _ _ _ (L.put o.dst (zY z)) k)
end
attribute [go_sem] Qv s0
end Go.Vc
