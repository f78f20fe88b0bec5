/- An abstract machine for the model: what it computes on, its operations, the walk of a body, and that all of it is true of the model (part 3). -/
import Derived.Test.YteofmaagnphonaaGreatDoorVc2
import Derived.Lib.Bytealg
import Derived.Lib.SliceRun
import Derived.Shelf.SlIter.Nil
import Derived.Shelf.SlSortCmp.Insertion
import Derived.Shelf.SlSortCmp.NoneTotal
import Derived.Shelf.SortM.Plain
import Derived.Shelf.SortM.SortNone
import Derived.Shelf.Strings.Builder1
set_option linter.unusedSectionVars false
set_option linter.unusedVariables false
open List
namespace Go.Vc
variable [Tabs]
def mT:List Nat->Nat->Option Nat
 |[],_=>none
 |i::ids,o=>if i=o then some 0 else match mT ids o with
  |some j=>some (j+1)
  |none=>none
def iA:List Nat->Nat->Nat->Nat
 |[],base,j=>base+j
 |i::_,_,0=>i
 |_::ids,base,j+1=>iA ids base j
mutual
def fz(b:List Nat):Va->Option Va
 |.ptr o a=>match mT b o with
  |some j=>some (.ptr j a)
  |none=>none
 |.cs o a=>match mT b o with
  |some j=>some (.cs j a)
  |none=>none
 |.el o s i a=>match mT b o with
  |some j=>some (.el j s i a)
  |none=>none
 |.buf o=>match mT b o with
  |some j=>some (.buf j)
  |none=>none
 |.mp o=>match mT b o with
  |some j=>some (.mp j)
  |none=>none
 |.np o=>match mT b o with
  |some j=>some (.np j)
  |none=>none
 |.sd o=>match mT b o with
  |some j=>some (.sd j)
  |none=>none
 |.vw o s a n=>match mT b o with
  |some j=>some (.vw j s a n)
  |none=>none
 |.bufc o s=>match mT b o with
  |some j=>some (.bufc j s)
  |none=>none
 |.nv o i=>match mT b o with
  |some j=>some (.nv j i)
  |none=>none
 |.ne o s i e a=>match mT b o with
  |some j=>some (.ne j s i e a)
  |none=>none
 |.fn f c=>match iq b c with
  |some d=>some (.fn f d)
  |none=>none
 |.agg c=>match iq b c with
  |some d=>some (.agg d)
  |none=>none
 |.tup c=>match iq b c with
  |some d=>some (.tup d)
  |none=>none
 |.cnd _ _=>none
 |v=>some v
def iq(a:List Nat):List Va->Option (List Va)
 |[]=>some []
 |v::b=>match fz a v,iq a b with
  |some u,some c=>some (u::c)
  |_,_=>none
end
mutual
def gX(a:List Nat):Va->Option Va
 |.nils=>some (.p (.l []))
 |.full r=>some (.p (.l r))
 |.agg b=>match kI a b with
  |some c=>some (.agg c)
  |none=>none
 |v=>fz a v
def kI(a:List Nat):List Va->Option (List Va)
 |[]=>some []
 |v::b=>match gX a v,kI a b with
  |some u,some c=>some (u::c)
  |_,_=>none
end
def k0(a:List Nat):Ob->Option Ob
 |.cells T c=>match iq a c with
  |some d=>some (.cells T d)
  |none=>none
 |.it _ _ _=>none
 |.nst f T e k p b g=>match mT a p with
  |some j=>some (.nst f T e k j b g)
  |none=>none
 |x=>some x
def i6(a:List Nat)(H:List Ob):List Nat->Option (List Ob)
 |[]=>some []
 |i::is=>match k0 a (eB H i),i6 a H is with
  |some x,some X=>some (x::X)
  |_,_=>none
mutual
def eW(c:List Nat)(b:Nat):Va->Va
 |.ptr o a=>.ptr (iA c b o) a
 |.cs o a=>.cs (iA c b o) a
 |.el o s i a=>.el (iA c b o) s i a
 |.buf o=>.buf (iA c b o)
 |.mp o=>.mp (iA c b o)
 |.np o=>.np (iA c b o)
 |.sd o=>.sd (iA c b o)
 |.vw o s a n=>.vw (iA c b o) s a n
 |.bufc o s=>.bufc (iA c b o) s
 |.nv o i=>.nv (iA c b o) i
 |.ne o s i j a=>.ne (iA c b o) s i j a
 |.fn f d=>.fn f (i2 c b d)
 |.agg d=>.agg (i2 c b d)
 |.tup d=>.tup (i2 c b d)
 |.cnd _ _=>.top
 |v=>v
def i2(b:List Nat)(a:Nat):List Va->List Va
 |[]=>[]
 |v::c=>eW b a v::i2 b a c
end
def Ak(b:List Nat)(a:Nat):Ob->Ob
 |.cells T d=>.cells T (i2 b a d)
 |.it _ _ _=>.gone
 |.nst f T e k p c g=>.nst f T e k (iA b a p) c g
 |x=>x
def gu(b:List Nat)(a:Nat):List Ob->List Ob
 |[]=>[]
 |x::X=>Ak b a x::gu b a X
def fw{α:Type}:List α->List Nat->List α->List α
 |H,i::ids,x::X=>fw (H.set i x) ids X
 |H,[],X=>H++X
 |H,_::_,[]=>H
def jr(m:Nat):List Nat->Bool
 |[]=>true
 |i::ids=>decide (i<m)&&!(ids.contains i)&&jr m ids
def fH(a:List Nat)(H:List Ob)(o:Nat):Bool:=!(a.contains o&&!(eB H o).kept)
theorem im:∀{a:List Nat} {o j:Nat},mT a o=some j->a[j]?=some o
 |[],_,_,h=>by simp[mT]at h
 |i::a,o,j,h=>by
  simp only[mT]at h;split at h
  .cases h;rename_i e;simp[e]
  .split at h
   .rename_i c b;cases h;simpa using im b
   .cases h
theorem UB{m:Nat}:∀{a:List Nat},jr m a=true->a.Nodup/\∀i∈a,i<m
 |[],_=>by simp
 |i::a,h=>by
  simp only[jr,Bool.and_eq_true,decide_eq_true_eq,Bool.not_eq_true',contains_eq_mem,decide_eq_false_iff_not]at h;obtain⟨c,d⟩:=UB h.2;refine⟨nodup_cons.2 ⟨h.1.2,c⟩,fun j b=>?_⟩;rcases mem_cons.1 b with rfl|b
  .exact h.1.1
  .exact d j b
theorem qc:∀{b:List Nat} {a j i:Nat},b[j]?=some i->iA b a j=i
 |[],_,_,_,h=>by simp at h
 |i::b,a,0,k,h=>by simp at h;simp[iA,h]
 |i::b,a,j+1,k,h=>by simp only[iA];exact qc (by simpa using h)
theorem wv:∀{b:List Nat} {a j:Nat},b.length<=j->iA b a j=a+(j-b.length)
 |[],_,_,_=>by simp[iA]
 |i::b,a,0,h=>by simp at h
 |i::b,a,j+1,h=>by simp only[iA,length_cons];rw[wv (by simpa using h)];omega
theorem LB{α:Type}:∀{a:List Nat} {H X:List α},a.length<=X.length->(fw H a X).length=H.length+(X.length-a.length)
 |[],H,X,_=>by simp[fw]
 |i::a,H,x::X,h=>by simp only[fw];rw[LB (by simpa using h)];simp
 |i::a,H,[],h=>by simp at h
theorem KZ{α:Type}:∀{ids:List Nat} {H X:List α} {o:Nat},o∉ids->o<H.length->(fw H ids X)[o]?=H[o]?
 |[],H,X,o,_,h=>by simp only[fw];rw[getElem?_append_left h]
 |i::ids,H,x::X,o,a,h=>by
  simp only[fw];rw[KZ (fun h=>a (by simp[h])) (by simpa using h),getElem?_set_ne (fun e=>a (by simp[e]))]
 |i::ids,H,[],o,_,_=>rfl
theorem KY{α:Type}:∀{ids:List Nat} {H X:List α} {j i:Nat},ids.Nodup->(∀i∈ids,i<H.length)->ids.length<=X.length->ids[j]?=some i->(fw H ids X)[i]?=X[j]?
 |[],_,_,_,_,_,_,_,h=>by simp at h
 |i::ids,H,[],_,_,_,_,b,_=>by simp at b
 |i::ids,H,x::X,0,k,c,a,_,h=>by
  simp at h;subst h;simp only[fw];rw[KZ (nodup_cons.1 c).1 (by simpa using a i (by simp)),getElem?_set_self (a i (by simp))];rfl
 |i::ids,H,x::X,j+1,k,c,a,b,h=>by simp only[fw];rw[KY (nodup_cons.1 c).2 (fun q d=>by simpa using a q (by simp[d])) (by simpa using b) (by simpa using h)];rfl
theorem VO{α:Type}:∀{ids:List Nat} {H X:List α} {j:Nat},ids.length<=j->(fw H ids X)[H.length+(j-ids.length)]?=X[j]?
 |[],H,X,j,_=>by simp only[fw];rw[getElem?_append_right (by omega)];simp
 |i::ids,H,[],j,_=>by simp only[fw];rw[getElem?_eq_none (by omega)];rfl
 |i::ids,H,x::X,0,h=>by simp at h
 |i::ids,H,x::X,j+1,h=>by
  simp only[fw];have:=VO (H:=H.set i x) (X:=X) (ids:=ids) (j:=j) (by simpa using h);rw[length_set]at this;simpa using this
theorem WA{α:Type}{ids:List Nat}{H X:List α}{o:Nat}{y:α}(e:ids.Nodup)(a:∀i∈ids,i<H.length)(f:ids.length<=X.length)(h:(fw H ids X)[o]?=some y) :
  (∃j:Nat,ids[j]?=some o/\X[j]?=some y)∨(o∉ids/\o<H.length/\H[o]?=some y)∨(∃j:Nat,ids.length<=j/\o=H.length+(j-ids.length)/\X[j]?=some y):=by
 by_cases b:o∈ids
 .obtain⟨j,d⟩:=getElem?_of_mem b;exact .inl ⟨j,d,by rw[<-KY e a f d];exact h⟩
 .rcases Nat.lt_or_ge o H.length with c|c
  .exact .inr (.inl ⟨b,c,by rw[<-KZ b c];exact h⟩)
  .refine .inr (.inr ⟨o-H.length+ids.length,by omega,by omega,?_⟩);rw[<-VO (H:=H) (X:=X) (j:=o-H.length+ids.length) (ids:=ids) (by omega)];rw[show H.length+(o-H.length+ids.length-ids.length)=o by omega];exact h
section
variable {K:Nat->Prop} {h:Array Obj} {G G1:List Gh} {ids:List Nat} {base:Nat}
mutual
theorem jt(r:∀(j o:Nat),ids[j]?=some o->G1[j]?=G[o]?):∀{c:Value} {v u:Va},fz ids v=some u->VR K h G c v->VR K h G1 c u
 |c,.p x,u,d,e=>by simp only[fz]at d;cases d;simpa only[VR]using e
 |c,.nils,u,d,e=>by simp only[fz]at d;cases d;simpa only[VR]using e
 |c,.full w,u,d,e=>by simp only[fz]at d;cases d;simpa only[VR]using e
 |c,.rp A,u,d,e=>by simp only[fz]at d;cases d;simpa only[VR]using e
 |c,.nil,u,d,e=>by simp only[fz]at d;cases d;simpa only[VR]using e
 |c,.raw v,u,d,e=>by simp only[fz]at d;cases d;simpa only[VR]using e
 |c,.er v,u,d,e=>by simp only[fz]at d;cases d;simpa only[VR]using e
 |c,.top,u,d,e=>by simp only[fz]at d;cases d;simp[VR]
 |c,.ptr o a,u,d,e=>by
  simp only[fz]at d;split at d
  .rename_i j q;cases d;simp only[VR]at *;obtain⟨g,b,k,l⟩:=e;exact⟨g,b,by rw[r j o (im q)];exact k,l⟩
  .cases d
 |c,.cs o a,u,d,e=>by
  simp only[fz]at d;split at d
  .rename_i j q;cases d;simp only[VR]at *;obtain⟨g,b,k,l⟩:=e;exact⟨g,b,by rw[r j o (im q)];exact k,l⟩
  .cases d
 |c,.el o s i a,u,d,e=>by
  simp only[fz]at d;split at d
  .rename_i j q;cases d;simp only[VR]at *;obtain⟨g,b,n,m,k,l⟩:=e;exact⟨g,b,n,m,by rw[r j o (im q)];exact k,l⟩
  .cases d
 |c,.buf o,u,d,e=>by
  simp only[fz]at d;split at d
  .rename_i j q;cases d;simp only[VR]at *;obtain⟨g,k,l⟩:=e;exact⟨g,by rw[r j o (im q)];exact k,l⟩
  .cases d
 |c,.mp o,u,d,e=>by
  simp only[fz]at d;split at d
  .rename_i j q;cases d;simp only[VR]at *;obtain⟨g,b,k,l⟩:=e;exact⟨g,b,by rw[r j o (im q)];exact k,l⟩
  .cases d
 |c,.np o,u,d,e=>by
  simp only[fz]at d;split at d
  .rename_i j q;cases d;simp only[VR]at *;rcases e with e|⟨g,b,k,l⟩
   .exact .inl e
   .exact .inr ⟨g,b,by rw[r j o (im q)];exact k,l⟩
  .cases d
 |c,.sd o,u,d,e=>by
  simp only[fz]at d;split at d
  .rename_i j q;cases d;simp only[VR]at *;obtain⟨g,a,n,m,k,l⟩:=e;exact⟨g,a,n,m,by rw[r j o (im q)];exact k,l⟩
  .cases d
 |c,.vw o _ _ _,u,d,e=>by
  simp only[fz]at d;split at d
  .rename_i j q;cases d;simp only[VR]at *;obtain⟨g,a,n,m,k,l⟩:=e;exact⟨g,a,n,m,by rw[r j o (im q)];exact k,l⟩
  .cases d
 |c,.bufc o _,u,d,e=>by
  simp only[fz]at d;split at d
  .rename_i j q;cases d;simp only[VR]at *;obtain⟨g,a,n,m,k,l⟩:=e;exact⟨g,a,n,m,by rw[r j o (im q)];exact k,l⟩
  .cases d
 |c,.nv o _,u,d,e=>by
  simp only[fz]at d;split at d
  .rename_i j q;cases d;simp only[VR]at *;obtain⟨g,a,n,m,k,l⟩:=e;exact⟨g,a,n,m,by rw[r j o (im q)];exact k,l⟩
  .cases d
 |c,.ne o _ _ _ _,u,d,e=>by
  simp only[fz]at d;split at d
  .rename_i j q;cases d;simp only[VR]at *;obtain⟨g,b,n,m,k,l⟩:=e;exact⟨g,b,n,m,by rw[r j o (im q)];exact k,l⟩
  .cases d
 |c,.fn f y,u,d,e=>by
  simp only[fz]at d;split at d
  .rename_i z t;cases d;simp only[VR]at *;obtain⟨cs,k,l⟩:=e;exact⟨cs,k,Mc r t l⟩
  .cases d
 |c,.agg y,u,d,e=>by
  simp only[fz]at d;split at d
  .rename_i z t;cases d;simp only[VR]at *;obtain⟨cs,k,l⟩:=e;exact⟨cs,k,Mc r t l⟩
  .cases d
 |c,.tup y,u,d,e=>by
  simp only[fz]at d;split at d
  .rename_i z t;cases d;simp only[VR]at *;obtain⟨cs,k,l⟩:=e;exact⟨cs,k,Mc r t l⟩
  .cases d
 |c,.cnd _ _,u,d,_=>by simp[fz]at d
theorem Mc(g:∀(j o:Nat),ids[j]?=some o->G1[j]?=G[o]?):∀{cs:List Value} {d b:List Va},iq ids d=some b->VRs K h G cs d->VRs K h G1 cs b
 |cs,[],b,a,e=>by simp only[iq]at a;cases a;simpa only[VRs]using e
 |cs,v::d,b,a,e=>by
  simp only[iq]at a;split at a
  .rename_i u i k l;cases a;simp only[VRs]at *;obtain⟨c,f,m,n,p⟩:=e;exact⟨c,f,m,jt g k n,Mc g l p⟩
  .cases a
end
mutual
theorem wt(m:∀(j:Nat) (g:Gh),G1[j]?=some g->G[iA ids base j]?=some g):∀{c:Value} {v:Va},VR K h G1 c v->VR K h G c (eW ids base v)
 |c,.p x,d=>by simpa only[eW,VR]using d
 |c,.nils,d=>by simpa only[eW,VR]using d
 |c,.full q,d=>by simpa only[eW,VR]using d
 |c,.rp t,d=>by simpa only[eW,VR]using d
 |c,.nil,d=>by simpa only[eW,VR]using d
 |c,.raw v,d=>by simpa only[eW,VR]using d
 |c,.er v,d=>by simpa only[eW,VR]using d
 |c,.top,_=>by simp[eW,VR]
 |c,.ptr o a,d=>by simp only[eW,VR]at *;obtain⟨g,b,e,k⟩:=d;exact⟨g,b,m o g e,k⟩
 |c,.cs o a,d=>by simp only[eW,VR]at *;obtain⟨g,b,e,k⟩:=d;exact⟨g,b,m o g e,k⟩
 |c,.el o s i a,d=>by simp only[eW,VR]at *;obtain⟨g,b,n,l,e,k⟩:=d;exact⟨g,b,n,l,m o g e,k⟩
 |c,.buf o,d=>by simp only[eW,VR]at *;obtain⟨g,e,k⟩:=d;exact⟨g,m o g e,k⟩
 |c,.mp o,d=>by simp only[eW,VR]at *;obtain⟨g,b,e,k⟩:=d;exact⟨g,b,m o g e,k⟩
 |c,.np o,d=>by
  simp only[eW,VR]at *;rcases d with d|⟨g,b,e,k⟩
  .exact .inl d
  .exact .inr ⟨g,b,m o g e,k⟩
 |c,.sd o,d=>by simp only[eW,VR]at *;obtain⟨g,a,n,l,e,k⟩:=d;exact⟨g,a,n,l,m o g e,k⟩
 |c,.vw o _ _ _,d=>by simp only[eW,VR]at *;obtain⟨g,a,n,l,e,k⟩:=d;exact⟨g,a,n,l,m o g e,k⟩
 |c,.bufc o _,d=>by simp only[eW,VR]at *;obtain⟨g,a,n,l,e,k⟩:=d;exact⟨g,a,n,l,m o g e,k⟩
 |c,.nv o _,d=>by simp only[eW,VR]at *;obtain⟨g,a,n,l,e,k⟩:=d;exact⟨g,a,n,l,m o g e,k⟩
 |c,.ne o _ _ _ _,d=>by simp only[eW,VR]at *;obtain⟨g,b,n,l,e,k⟩:=d;exact⟨g,b,n,l,m o g e,k⟩
 |c,.fn f r,d=>by simp only[eW,VR]at *;obtain⟨cs,e,k⟩:=d;exact⟨cs,e,L9 m k⟩
 |c,.agg r,d=>by simp only[eW,VR]at *;obtain⟨cs,e,k⟩:=d;exact⟨cs,e,L9 m k⟩
 |c,.tup r,d=>by simp only[eW,VR]at *;obtain⟨cs,e,k⟩:=d;exact⟨cs,e,L9 m k⟩
 |c,.cnd _ _,_=>by simp[eW,VR]
theorem L9(e:∀(j:Nat) (g:Gh),G1[j]?=some g->G[iA ids base j]?=some g):∀{cs:List Value} {a:List Va},VRs K h G1 cs a->VRs K h G cs (i2 ids base a)
 |cs,[],b=>by simpa only[i2,VRs]using b
 |cs,v::a,b=>by simp only[i2,VRs]at *;obtain⟨c,d,f,i,k⟩:=b;exact⟨c,d,f,wt e i,L9 e k⟩
end
mutual
theorem uL(d:∀(j o:Nat),ids[j]?=some o->G1[j]?=G[o]?):∀{c:Value} {v u:Va},gX ids v=some u->VR K h G c v->VR K h G1 c u
 |c,.nils,u,a,b=>by simp only[gX]at a;cases a;simp only[VR,DR]at *;exact .inl ⟨⟨none,b⟩,trivial⟩
 |c,.full r,u,a,b=>by simp only[gX]at a;cases a;simp only[VR]at *;exact b.1
 |c,.agg i,u,a,b=>by
  simp only[gX]at a;split at a
  .rename_i k e;cases a;simp only[VR]at *;obtain⟨cs,f,g⟩:=b;exact⟨cs,f,k4 d e g⟩
  .cases a
 |c,.p _,u,a,b=>by unfold gX at a;exact jt d a b
 |c,.rp _,u,a,b=>by unfold gX at a;exact jt d a b
 |c,.ptr _ _,u,a,b=>by unfold gX at a;exact jt d a b
 |c,.cs _ _,u,a,b=>by unfold gX at a;exact jt d a b
 |c,.el _ _ _ _,u,a,b=>by unfold gX at a;exact jt d a b
 |c,.buf _,u,a,b=>by unfold gX at a;exact jt d a b
 |c,.mp _,u,a,b=>by unfold gX at a;exact jt d a b
 |c,.np _,u,a,b=>by unfold gX at a;exact jt d a b
 |c,.sd _,u,a,b=>by unfold gX at a;exact jt d a b
 |c,.bufc _ _,u,a,b=>by unfold gX at a;exact jt d a b
 |c,.nv _ _,u,a,b=>by unfold gX at a;exact jt d a b
 |c,.ne _ _ _ _ _,u,a,b=>by unfold gX at a;exact jt d a b
 |c,.vw _ _ _ _,u,a,b=>by unfold gX at a;exact jt d a b
 |c,.fn _ _,u,a,b=>by unfold gX at a;exact jt d a b
 |c,.tup _,u,a,b=>by unfold gX at a;exact jt d a b
 |c,.nil,u,a,b=>by unfold gX at a;exact jt d a b
 |c,.cnd _ _,u,a,b=>by unfold gX at a;exact jt d a b
 |c,.raw _,u,a,b=>by unfold gX at a;exact jt d a b
 |c,.er _,u,a,b=>by unfold gX at a;exact jt d a b
 |c,.top,u,a,b=>by unfold gX at a;exact jt d a b
theorem k4(g:∀(j o:Nat),ids[j]?=some o->G1[j]?=G[o]?):∀{cs:List Value} {d b:List Va},kI ids d=some b->VRs K h G cs d->VRs K h G1 cs b
 |cs,[],b,a,e=>by simp only[kI]at a;cases a;simpa only[VRs]using e
 |cs,v::d,b,a,e=>by
  simp only[kI]at a;split at a
  .rename_i u i k l;cases a;simp only[VRs]at *;obtain⟨c,f,m,n,p⟩:=e;exact⟨c,f,m,uL g k n,k4 g l p⟩
  .cases a
end
theorem Hj(l:∀(j o:Nat),ids[j]?=some o->G1[j]?=G[o]?){g:Gh}{x y:Ob}(a:k0 ids x=some y)(c:ObR K h G g x):ObR K h G1 g y:=by
 cases x with
 |cells T m =>
  simp only[k0]at a;split at a
  .rename_i u q;cases a;obtain⟨b,cs,d,e,i⟩:=c;exact⟨b,cs,d,e,Mc l q i⟩
  .cases a
 |it _ _ _=>simp[k0]at a
 |nst f T v k p n w =>
  simp only[k0]at a;split at a
  .rename_i j r;cases a;obtain⟨s,d,t,m,e,i⟩:=c;exact⟨s,d,t,m,by rw[l j p (im r)];exact e,i⟩
  .cases a
 |_=>simp only[k0]at a;cases a;exact c
theorem mS{x y:Ob}(a:k0 ids x=some y):y.kept=x.kept:=by
 cases x with
 |cells T c =>
  simp only[k0]at a;split at a
  .cases a;rfl
  .cases a
 |it _ _ _=>simp[k0]at a
 |nst f T d k p b e =>
  simp only[k0]at a;split at a
  .cases a;rfl
  .cases a
 |_=>simp only[k0]at a;cases a;rfl
theorem Kl(i:∀(j:Nat) (g:Gh),G1[j]?=some g->G[iA ids base j]?=some g){g:Gh}{x:Ob}(a:ObR K h G1 g x):ObR K h G g (Ak ids base x):=by
 cases x with
 |cells T l =>
  obtain⟨b,cs,c,d,e⟩:=a;exact⟨b,cs,c,d,L9 i e⟩
 |it _ _ _=>trivial
 |nst f T q k p m r =>
  obtain⟨o,c,n,l,d,e⟩:=a;exact⟨o,c,n,l,i p n d,e⟩
 |_=>exact a
end
theorem wu(b:List Nat)(a:Nat)(x:Ob):(Ak b a x).kept=x.kept:=by cases x <;> rfl
theorem Mw(b:List Nat)(a:Nat):∀(X:List Ob) (j:Nat),(gu b a X)[j]?=(X[j]?).map (Ak b a)
 |[],j=>by simp[gu]
 |x::X,0=>by simp[gu]
 |x::X,j+1=>by simp only[gu,getElem?_cons_succ];exact Mw b a X j
theorem tX(b:List Nat)(a:Nat):∀X:List Ob,(gu b a X).length=X.length
 |[]=>rfl
 |x::X=>by simp[gu,tX b a X]
theorem Ug{a:List Nat}{H:List Ob}:∀{is:List Nat} {X:List Ob},i6 a H is=some X->X.length=is.length/\∀(j i:Nat),is[j]?=some i->∃x,X[j]?=some x/\k0 a (eB H i)=some x
 |[],X,h=>by simp only[i6]at h;cases h;simp
 |i::is,X,h=>by
  simp only[i6]at h;split at h
  .rename_i x g c d;cases h;obtain⟨e,f⟩:=Ug d;refine⟨by simp[e],fun j k b=>?_⟩;cases j with
   |zero=>simp at b;subst b;exact⟨x,rfl,c⟩
   |succ j=>simpa using f j k (by simpa using b)
  .cases h
theorem Mk:∀{H:List Ob} {o:Nat} {x:Ob},H[o]?=some x->eB H o=x
 |[],_,_,h=>by simp at h
 |y::H,0,x,h=>by simp at h;simp[eB,h]
 |y::H,o+1,x,h=>by simp only[eB];exact Mk (by simpa using h)
theorem nk{X:List Ob}{o:Nat}{x:Ob}(h:X[o]?=some x)(a:x.kept=true):eE (kinds X) o=true:=by
 induction X generalizing o with
 |nil=>simp at h
 |cons y X b =>
  cases o with
  |zero=>simp at h;subst h;simp[kinds,eE,a]
  |succ o=>simp only[kinds,eE];exact b (by simpa using h)
section
variable {P:Program} {kl:List Bool} {n:Nat} {B:Bs} {K:ep->List Ob->Prop} {E:ep} {H:List Ob} {ops:Array Oper}
theorem ku{o:Oper}{c:Call}{fop:Operand}{f:FuncId}{caps args:List Va}{X:List Ob}{Post:Va->List Ob->Prop}(d:List Nat)(hs:Does P f args X Post)(e1:o.op=.call c)(e3:c.callee=.value fop)(hk:opOk true E fop/\allOk true E c.args.toList)(e4:opnd E fop=.fn f caps)
  (hp:∀{K:Nat->Prop} {h:Array Obj} {G I:List Gh} {cs:List Value},(∀(j o:Nat),d[j]?=some o->I[j]?=G[o]?)->VRs K h G cs (opnds E c.args.toList++caps)->VRs K h I cs args) (hXs:i6 d H d=some X) (hids:jr H.length d=true) {a:Act} {w:World} {Q:Exit->Act->World->Prop} {K':Act->World->Prop} (hR:Rel (cx P kl n B) E H a w)
  (hK':∀c' r X' w',Post r X'->r.ok->RelV (cx P kl n B) (fX (fH d H) E) (fw (fG (fH d H) H) d (gu d H.length X')) c' (eW d H.length r) a w'->K' (a.put o.dst c') w'):o.wp P a w K' Q:=by
 obtain⟨Kk,G,hX,D,hE,hdf,hn,hkp⟩:=hR;have hvf:=zD hE rfl fop hk.1;rw[e4]at hvf;simp only[VR]at hvf;obtain⟨cs,hcs,hcv⟩:=hvf;have hargs:=xe hE rfl c.args.toList hk.2;obtain⟨O,hlt⟩:=UB hids;obtain⟨hXl,hXg⟩:=Ug hXs
 -- the ghosts that are handed over
 have Y:∀i∈d,i<G.length:=fun i hi=>by rw[D.len];exact hlt i hi
 obtain⟨Gs,R,hGs⟩:∃Gs:List Gh,Gs.length=d.length/\∀(j i:Nat),d[j]?=some i->Gs[j]?=G[i]?:=by refine⟨d.map fun i=>G.getD i ⟨none,undef,[]⟩,by simp,fun j i v=>?_⟩;have:=Y i (mem_of_getElem? v);simp[v,getElem?_eq_getElem this]
 have J:∀{j:Nat} {g:Gh},Gs[j]?=some g->∃i,d[j]?=some i/\G[i]?=some g:=by intro j g q;have v:=(List.getElem?_eq_some_iff.1 q).1;rw[R]at v;exact⟨d[j],getElem?_eq_getElem v,by rw[<-hGs j _ (getElem?_eq_getElem v)];exact q⟩
 have hSs:St Kk Gs X w:=by
  refine⟨by rw[R,hXl],D.kb,fun j g b q hb=>?_,fun j j' g T b q Z hb s=>?_,fun j g x q hx=>?_,D.tb⟩
  .obtain⟨i,_,hi⟩:=J q;exact D.gbo i g b hi hb
  .obtain⟨i,z,hi⟩:=J q;obtain⟨i',hij',hi'⟩:=J Z;obtain rfl:=D.ijo i i' g T b hi hi' hb s;exact(getElem?_inj (List.getElem?_eq_some_iff.1 z).1 O).1 (z.trans hij'.symm)
  .obtain⟨i,z,hi⟩:=J q;obtain⟨x',hx',L⟩:=hXg j i z;rw[hx]at hx';cases hx';have hil:=hlt i (mem_of_getElem? z)
   have hoi:H[i]?=some (eB H i)∨eB H i=.gone:=by
    rcases Classical.em (eB H i=.gone)with e|e
    .exact .inr e
    .exact .inl (zy rfl e)
   rcases hoi with hoi|hoi
   .exact Hj (fun j o h=>hGs j o h) L (D.ob i g _ hi hoi)
   .rw[hoi]at L;simp only[k0]at L;cases L;trivial
 have hall:=hp (fun j o h=>hGs j o h) (hargs.append hcv);unfold Oper.wp;rw[Lh e1 e3 hcs hs.1];simp only[Oper.upon];refine(hs.2 Kk Gs w _ hSs hall).mono ?_;rintro e w' ⟨c',r,X',K1,I,rfl,hpost,t,A,hv,hkp1⟩;have F:d.length<=I.length:=by rw[<-R];exact t.glen
 have hXl1:d.length<=X'.length:=by rw[<-A.len];exact F
 let G2:=fw G d I
 -- how the ghosts lie in the new list
 have g2new:∀(j:Nat) (g:Gh),I[j]?=some g->G2[iA d H.length j]?=some g:=by
  intro j g q;rcases Nat.lt_or_ge j d.length with h|h
  .rw[qc (getElem?_eq_getElem h)];show(fw G d I)[_]?=_;rw[KY O Y F (getElem?_eq_getElem h)];exact q
  .rw[wv h,<-D.len];show(fw G d I)[_]?=_;rw[VO h];exact q
 have l:∀{o:Nat} {g:Gh},G2[o]?=some g->(∃j:Nat,d[j]?=some o/\I[j]?=some g)∨(o∉d/\o<G.length/\G[o]?=some g)∨(∃j:Nat,d.length<=j/\o=G.length+(j-d.length)/\I[j]?=some g):=fun h=>WA O Y F h;have old:∀{j:Nat} {g:Gh} {b:Nat},I[j]?=some g->own g b->(∃(i:Nat) (M:Gh),i∈d/\G[i]?=some M/\own M b)∨w.heap.size<=b:=by
  intro j g b q hb;rcases t.gown j g b q hb with⟨j0,M,h1,S⟩|h
  .obtain⟨i,z,hi⟩:=J h1;exact .inl ⟨i,M,mem_of_getElem? z,hi,S⟩
  .exact .inr h
 have fr:∀b,b<w.heap.size->(∀(o:Nat) (g:Gh),o∈d->G[o]?=some g->¬ own g b)->w'.heap[b]?=w.heap[b]?:=fun b hb hn=>t.frame b hb fun j g q=>by obtain⟨i,z,hi⟩:=J q;exact hn i g (mem_of_getElem? z) hi
 have hMk:Mn Kk K1 w.heap w'.heap:=⟨t.k,fun b hb=>fr b (D.kb b hb) fun o g _ q e=>(D.gbo o g b q e).2 hb⟩;have same:∀{j i:Nat},d[j]?=some i->(eB H i).kept=true->I[j]?=G[i]?:=by intro j i v U;obtain⟨x,hx,L⟩:=hXg j i v;have hk:eE (kinds X) j=true:=nk hx (by rw[mS L];exact U);have hjl:=(List.getElem?_eq_some_iff.1 v).1;have hgs:Gs[j]?=some Gs[j]:=getElem?_eq_getElem (by rw[R];exact hjl);rw[t.gsame j _ hk hgs,<-hGs j i v,hgs]
 have hMg:Mg (fH d H) G G2:=by
  intro o g N q;have V:=(List.getElem?_eq_some_iff.1 q).1;by_cases W:o∈d
  .obtain⟨j,v⟩:=getElem?_of_mem W;show(fw G d I)[o]?=_;rw[KY O Y F v,same v ?_]
   .exact q
   .simpa [fH,W]using N
  .show(fw G d I)[o]?=_;rw[KZ W V];exact q
 let H2:=fw (fG (fH d H) H) d (gu d H.length X');have hHl:∀i∈d,i<(fG (fH d H) H).length:=fun i hi=>by rw[oI,length_map];exact hlt i hi
 have hS2:St K1 G2 H2 w':=by
  refine⟨?_,A.kb,fun o g b q hb=>?_,fun o o' g T b q Z hb s=>?_,fun o g x q hx=>?_,A.tb⟩
  .show(fw G d I).length=(fw (fG (fH d H) H) d (gu d H.length X')).length;rw[LB F,LB (by rw[tX];exact hXl1),oI,length_map,tX,D.len,A.len]
  .rcases l q with⟨j,_,h⟩|⟨N,V,h⟩|⟨j,_,_,h⟩
   .exact A.gbo j g b h hb
   .have:=D.gbo o g b h hb;refine⟨Nat.lt_of_lt_of_le this.1 t.size,fun hk=>?_⟩;rcases t.knew b hk with p|⟨j0,M,h1,S⟩|p
    .exact this.2 p
    .obtain⟨i,z,hi⟩:=J h1;exact N (D.ijo o i g M b h hi hb S ▸ mem_of_getElem? z)
    .omega
   .exact A.gbo j g b h hb
  .have sep:∀{o:Nat} {g T:Gh} {b j:Nat},o∉d->G[o]?=some g->own g b->I[j]?=some T->own T b->False:=by
    intro o g T b j N h hb p s;have hbs:=(D.gbo o g b h hb).1;rcases old p s with⟨i,M,hi,h0,hb0⟩|h0
    .exact N (D.ijo o i g M b h h0 hb hb0 ▸ hi)
    .omega
   rcases l q with⟨j,v,h⟩|⟨N,V,h⟩|⟨j,v,N,h⟩ <;> rcases l Z with⟨j',u,p⟩|⟨C,hol',p⟩|⟨j',u,C,p⟩
   .obtain rfl:=A.ijo j j' g T b h p hb s;rw[v]at u;cases u;rfl
   .exact(sep C p s h hb).elim
   .obtain rfl:=A.ijo j j' g T b h p hb s;have:=(List.getElem?_eq_some_iff.1 v).1;omega
   .exact(sep N h hb p s).elim
   .exact D.ijo o o' g T b h p hb s
   .exact(sep N h hb p s).elim
   .obtain rfl:=A.ijo j j' g T b h p hb s;have:=(List.getElem?_eq_some_iff.1 u).1;omega
   .exact(sep C p s h hb).elim
   .obtain rfl:=A.ijo j j' g T b h p hb s;omega
  .have hcx:=WA O hHl (by rw[tX];exact hXl1) hx;have hlenE:(fG (fH d H) H).length=G.length:=by rw[oI,length_map,D.len]
   have new:∀{j:Nat},I[j]?=some g->(gu d H.length X')[j]?=some x->ObR K1 w'.heap G2 g x:=by
    intro j h1 S;rw[Mw]at S;cases hy:X'[j]? with
    |none=>rw[hy]at S;cases S
    |some y =>
     rw[hy]at S;simp at S;subst S;exact Kl g2new (A.ob j g y h1 hy)
   rcases l q with⟨j,v,h⟩|⟨N,V,h⟩|⟨j,v,N,h⟩
   .rcases hcx with⟨j',u,p⟩|⟨C,_,_⟩|⟨j',u,C,p⟩
    .have:=(getElem?_inj (List.getElem?_eq_some_iff.1 v).1 O).1 (v.trans u.symm);subst this;exact new h p
    .exact absurd (mem_of_getElem? v) C
    .have:=Y o (mem_of_getElem? v);omega
   .rcases hcx with⟨j',u,p⟩|⟨C,_,p⟩|⟨j',u,C,p⟩
    .exact absurd (mem_of_getElem? u) N
    .rw[oI,getElem?_map]at p;cases hy:H[o]? with
     |none=>rw[hy]at p;cases p
     |some y =>
      rw[hy]at p;simp at p;subst p;refine ObR.prune hMk hMg (fun b hb=>fr b (D.gbo o g b h hb).1 fun i T hi Z e=>?_) (D.ob o g y h hy);have:=D.ijo o i g T b h Z hb e;subst this;exact N hi
    .omega
   .rcases hcx with⟨j',u,p⟩|⟨C,hol',_⟩|⟨j',u,C,p⟩
    .have:=hlt o (mem_of_getElem? u);rw[<-D.len]at this;omega
    .omega
    .have:j=j':=by omega
     subst this;exact new h p
 have hX2:Ext (eE kl) B.K0 B.G0 B.w0 K1 G2 w':=by
  refine hX.trans ⟨t.os,t.tape,t.output,t.size,t.k,fun b hb=>?_,?_,fun o g b q hb=>?_,fun o M N h0=>?_,fun b hb hn=>fr b hb fun o g _ q=>hn o g q⟩
  .rcases t.knew b hb with p|⟨j0,M,h1,S⟩|p
   .exact .inl p
   .obtain⟨i,_,hi⟩:=J h1;exact .inr (.inl ⟨i,M,hi,S⟩)
   .exact .inr (.inr p)
  .show G.length<=(fw G d I).length;rw[LB F];omega
  .have up:∀{j:Nat},I[j]?=some g->(∃(o0:Nat) (M:Gh),G[o0]?=some M/\own M b)∨w.heap.size<=b:=fun h=>(old h hb).imp (fun⟨i,M,_,h1,S⟩=>⟨i,M,h1,S⟩) id;rcases l q with⟨j,_,h⟩|⟨_,_,h⟩|⟨j,_,_,h⟩
   .exact up h
   .exact .inl ⟨o,g,h,hb⟩
   .exact up h
  .refine hMg o M ?_ h0;obtain⟨x,hx,U⟩:=hkp o N;have:(eB H o).kept=true:=by rw[Mk hx];exact U
   simp[fH,this]
 have hRV:RelV (cx P kl n B) (fX (fH d H) E) H2 c' (eW d H.length r) a w':=by
  refine⟨K1,G2,hX2,hS2,fun m=>by rw[rG];exact VR.prune hMk hMg _ _ (hE m),hdf,hn,fun o N=>?_,wt g2new hv⟩;obtain⟨x,hx,U⟩:=hkp o N;have V:=(List.getElem?_eq_some_iff.1 hx).1;by_cases W:o∈d
  .obtain⟨j,v⟩:=getElem?_of_mem W;obtain⟨y,hy,L⟩:=hXg j o v;have hk:eE (kinds X) j=true:=nk hy (by rw[mS L,Mk hx];exact U);obtain⟨y',hy',hkt'⟩:=hkp1 j hk;refine⟨Ak d H.length y',?_,by rw[wu];exact hkt'⟩;show(fw _ d _)[o]?=_;rw[KY O hHl (by rw[tX];exact hXl1) v,Mw,hy'];rfl
  .refine⟨x.prune (fH d H),?_,dl U⟩;show(fw _ d _)[o]?=_;rw[KZ W (by rw[oI,length_map];exact V),oI,getElem?_map,hx];rfl
 exact hK' c' r X' w' hpost hv.ok hRV
theorem BT{o:Oper}{c:Call}{g:Operand}{f:FuncId}{d args:List Va}{X:List Ob}{e:Va->List Ob->Prop}(b:List Nat)(hs:Does P f args X e)(q:o.op=.call c)(s:c.callee=.value g)(t:opOk true E g/\allOk true E c.args.toList)(u:opnd E g=.fn f d)
  (v:kI b (opnds E c.args.toList++d)=some args) (i:i6 b H b=some X) (h:jr H.length b=true) {a:Act} {w:World} {Q:Exit->Act->World->Prop} {k:Act->World->Prop} (x:Rel (cx P kl n B) E H a w)
  (j:∀l r m p,e r m->r.ok->RelV (cx P kl n B) (fX (fH b H) E) (fw (fG (fH b H) H) b (gu b H.length m)) l (eW b H.length r) a p->k (a.put o.dst l) p):o.wp P a w k Q :=
 ku b hs q s t u (fun y z=>k4 y v z) i h x j
theorem ei{o:Oper}{l:List Oper}{f:FuncId}{av args:List Va}{X:List Ob}{d:Va->List Ob->Prop}(b:List Nat)(hs:Does P f args X d)(t:Is (xb E o) (some (f,av)))(u:Is (kI b av) (some args))(i:Is (i6 b H b) (some X))(e:jr H.length b=true)(j:ij n true E o)
  (g:∀r h,d r h->r.ok->ft P kl n B ops K (ff P kl n ops.toList l ⟨eL (fX (fH b H) E) o.dst (eW b H.length r),fw (fG (fH b H) H) b (gu b H.length h),True⟩)):Rg P kl n B ops (o::l) E H K:=by
 obtain⟨c,v,p,q,x,s,y,rfl⟩:=UX t;obtain⟨z,A⟩:=qj j q s;intro C a w Q D k;refine wpList_plain x fun J m=>?_;exact BT b hs q s A y u i e D fun L r h M F G I=>m _ _ (Rg.run (g r h F G) C _ _ _ (I.put o.dst (zQ z)) k)
end
variable [Tabs]
mutual
def jl(o:Nat)(r:Nat×List (List Dt)):Va->Va
 |.buf i=>if i=o then .p (.l r.2)else .buf i
 |.el i s j a=>if i=o then .top else .el i s j a
 |.ptr i a=>if i=o then .top else .ptr i a
 |.cs i a=>if i=o then .top else .cs i a
 |.mp i=>if i=o then .top else .mp i
 |.np i=>if i=o then .top else .np i
 |.sd i=>if i=o then .top else .sd i
 |.vw i s j n=>if i=o then(if s=r.1 then .p (.l ((r.2.drop j).take n))else .top)else .vw i s j n
 |.bufc i s=>if i=o then .top else .bufc i s
 |.nv i j=>if i=o then .top else .nv i j
 |.ne i s j l a=>if i=o then .top else .ne i s j l a
 |.fn f b=>.fn f (lF o r b)
 |.agg b=>.agg (lF o r b)
 |.tup b=>.tup (lF o r b)
 |.cnd c v=>if v.all (· != o)then .cnd c v else .top
 |v=>v
def lF(o:Nat)(r:Nat×List (List Dt)):List Va->List Va
 |[]=>[]
 |v::a=>jl o r v::lF o r a
end
def sx(o:Nat)(r:Nat×List (List Dt)):ep->ep
 |[]=>[]
 |(k,v)::E=>(k,jl o r v)::sx o r E
def nE(o:Nat)(r:Nat×List (List Dt)):Ob->Ob
 |.cells T b=>.cells T (lF o r b)
 |.it i c s=>if i=o then .gone else .it i c s
 |.nst f T d k p a e=>if p=o then(bif f then .lost else .gone)else .nst f T d k p a e
 |x=>x
def lG(o:Nat)(r:Nat×List (List Dt)):List Ob->List Ob
 |[]=>[]
 |x::H=>nE o r x::lG o r H
theorem sw{o:Nat}{r:Nat×List (List Dt)}{x:Ob}(h:x.kept=true):(nE o r x).kept=true:=by
 cases x <;> first|rfl|exact h|skip
 case it=>cases h
 case nst g T b k p a c =>
  simp only[nE];split
  .simp only[Ob.kept]at h;subst h;rfl
  .exact h
theorem nC(o:Nat)(r:Nat×List (List Dt)):∀(E:ep) (m:Nat),eM (sx o r E) m=jl o r (eM E m)
 |[],m=>by simp[sx,eM,jl]
 |(k,v)::E,m=>by
  simp only[sx,eM];split
  .rfl
  .exact nC o r E m
theorem VE(o:Nat)(r:Nat×List (List Dt)):∀(H:List Ob) (m:Nat),(lG o r H)[m]?=(H[m]?).map (nE o r)
 |[],m=>by simp[lG]
 |x::H,0=>by simp[lG]
 |x::H,m+1=>by simp only[lG,getElem?_cons_succ];exact VE o r H m
theorem WJ(o:Nat)(r:Nat×List (List Dt)):∀H:List Ob,(lG o r H).length=H.length
 |[]=>rfl
 |x::H=>by simp[lG,WJ o r H]
theorem VZ{K:Nat->Prop}{h:Array Obj}{c:Nat}:∀{a:Nat} {d:List Value} {e:List (List Dt)},DRss K h c d e->DRss K h c (d.drop (a*c)) (e.drop a)
 |0,_,_,b=>by simpa using b
 |a+1,d,[],b=>by simp only[DRss]at b;subst b;simp[DRss]
 |a+1,d,r::e,b=>by
  simp only[DRss]at b;obtain⟨u,v,rfl,f,i,j⟩:=b;have g:=i.length;rw[drop_succ_cons,Nat.add_mul,Nat.one_mul,Nat.add_comm,<-drop_drop,show c=u.length by rw[g,f],drop_left];have:=VZ (a:=a) j
  rwa [show u.length=c by rw[g,f]]
theorem V0{K:Nat->Prop}{h:Array Obj}{b:Nat}:∀{n:Nat} {c:List Value} {a:List (List Dt)},DRss K h b c a->DRss K h b (c.take ((a.take n).length*b)) (a.take n)
 |0,_,_,d=>by simp[DRss]
 |n+1,c,[],d=>by simp[DRss]
 |n+1,c,r::a,d=>by
  simp only[DRss]at d;obtain⟨u,v,rfl,f,e,g⟩:=d;have i:=e.length;simp only[take_succ_cons,length_cons,DRss];refine⟨u,v.take ((a.take n).length*b),?_,f,e,V0 g⟩;rw[Nat.add_mul,Nat.one_mul,Nat.add_comm,take_append,take_of_length_le (by omega)];congr 2;omega
theorem EY{K:Nat->Prop}{h:Array Obj}{c:Value}{o:Option Nat}{w:Option Addr}{N g sz a n:Nat}{r:List (List Dt)}(y:DR K h (.slice w N g) (.l r))(D:∀x∈r,x.length=sz)(E:Vo c o w N g sz a n):DR K h c (.l ((r.drop a).take n)):=by
 obtain⟨p,i,d,rfl,z,F,k⟩:=E;simp only[DR]at y|-;rcases y with⟨⟨_,G⟩,rfl⟩|⟨b,q,R,cs,T,A,e,H,I,B,C,S,U,J,s⟩
 .cases G;obtain rfl:n=0:=by omega
  obtain rfl:a=0:=by omega
  obtain rfl:d=0:=by omega
  exact .inl ⟨⟨i,rfl⟩,by simp⟩
 .cases I;rcases Nat.eq_zero_or_pos d with rfl|L
  .obtain rfl:n=0:=by omega
   exact .inl ⟨⟨i,rfl⟩,by simp⟩
  .obtain⟨M,_,hb,rfl⟩:=k L;have t:b=M/\q=0:=by injection hb with hb;injection hb with O P _;exact⟨O,P⟩
   obtain⟨rfl,rfl⟩:=t;have u:r=[]∨e=sz:=by
    cases r with
    |nil=>exact .inl rfl
    |cons x r =>
     simp only[DRss]at s;obtain⟨_,_,_,Q,_⟩:=s;exact .inr (by rw[<-Q];exact D x (by simp))
   rcases u with rfl|rfl
   .obtain rfl:n=0:=by simp at p;omega
    exact .inr ⟨b,a*sz,d,cs,T,A,e,[],by simp,B,C,by simp,by simp,by simp,by simp[DRss]⟩
   have f:((r.drop a).take n).length=n:=by rw[length_take,length_drop];omega
   refine .inr ⟨b,a*e,d,cs,T,A,e,(H.drop (a*e)).take (n*e),by rw[f],B,C,by omega,by omega,fun j v m=>?_,?_⟩
   .rw[getElem?_take]at m;split at m
    .rw[getElem?_drop]at m;have:=J _ _ m
     rwa [Nat.zero_add]at this
    .cases m
   .have:=V0 (n:=n) (VZ (a:=a) s)
    rwa [f]at this
section
variable {K K':Nat->Prop} {h:Array Obj} {G G':List Gh} {o:Nat} {r:Nat×List (List Dt)}
mutual
theorem vI(k:∀b,K b->K' b)(m:Mg (· != o) G G')(q:∀g,G[o]?=some g->DR K' h g.sv (.l r.2))(y:∀x∈r.2,x.length=r.1):∀{c:Value} {v:Va},VR K h G c v->VR K' h G' c (jl o r v)
 |c,.p x,d=>VR.keep (f:=(· != o)) ⟨k,fun _ _=>rfl⟩ m c (.p x) rfl d
 |c,.nils,d=>VR.keep (f:=(· != o)) ⟨k,fun _ _=>rfl⟩ m c .nils rfl d
 |c,.full t,d=>VR.keep (f:=(· != o)) ⟨k,fun _ _=>rfl⟩ m c (.full t) rfl d
 |c,.rp z,d=>VR.keep (f:=(· != o)) ⟨k,fun _ _=>rfl⟩ m c (.rp z) rfl d
 |c,.nil,d=>VR.keep (f:=(· != o)) ⟨k,fun _ _=>rfl⟩ m c .nil rfl d
 |c,.raw v,d=>VR.keep (f:=(· != o)) ⟨k,fun _ _=>rfl⟩ m c (.raw v) rfl d
 |c,.er v,d=>VR.keep (f:=(· != o)) ⟨k,fun _ _=>rfl⟩ m c (.er v) rfl d
 |c,.top,_=>by simp[jl,VR]
 |c,.buf i,d=>by
  simp only[jl];split
  .rename_i e;subst e;simp only[VR]at *;obtain⟨g,A,rfl,_⟩:=d;exact q g A
  .rename_i e;exact VR.keep (f:=(· != o)) ⟨k,fun _ _=>rfl⟩ m c (.buf i) (by simpa [Va.all]using e) d
 |c,.el i s j a,d=>by
  simp only[jl];split
  .simp[VR]
  .rename_i e;exact VR.keep (f:=(· != o)) ⟨k,fun _ _=>rfl⟩ m c (.el i s j a) (by simpa [Va.all]using e) d
 |c,.ptr i a,d=>by
  simp only[jl];split
  .simp[VR]
  .rename_i e;exact VR.keep (f:=(· != o)) ⟨k,fun _ _=>rfl⟩ m c (.ptr i a) (by simpa [Va.all]using e) d
 |c,.cs i a,d=>by
  simp only[jl];split
  .simp[VR]
  .rename_i e;exact VR.keep (f:=(· != o)) ⟨k,fun _ _=>rfl⟩ m c (.cs i a) (by simpa [Va.all]using e) d
 |c,.mp i,d=>by
  simp only[jl];split
  .simp[VR]
  .rename_i e;exact VR.keep (f:=(· != o)) ⟨k,fun _ _=>rfl⟩ m c (.mp i) (by simpa [Va.all]using e) d
 |c,.np i,d=>by
  simp only[jl];split
  .simp[VR]
  .rename_i e;exact VR.keep (f:=(· != o)) ⟨k,fun _ _=>rfl⟩ m c (.np i) (by simpa [Va.all]using e) d
 |c,.sd i,d=>by
  simp only[jl];split
  .simp[VR]
  .rename_i e;exact VR.keep (f:=(· != o)) ⟨k,fun _ _=>rfl⟩ m c (.sd i) (by simpa [Va.all]using e) d
 |c,.vw i s j n,d=>by
  simp only[jl];split
  .rename_i e;subst e;split
   .rename_i E;subst E;simp only[VR]at d|-;obtain⟨g,H,N,F,A,B,C⟩:=d;exact EY (B ▸ q g A) y C
   .simp[VR]
  .rename_i e;exact VR.keep (f:=(· != o)) ⟨k,fun _ _=>rfl⟩ m c (.vw i s j n) (by simpa [Va.all]using e) d
 |c,.bufc i s,d=>by
  simp only[jl];split
  .simp[VR]
  .rename_i e;exact VR.keep (f:=(· != o)) ⟨k,fun _ _=>rfl⟩ m c (.bufc i s) (by simpa [Va.all]using e) d
 |c,.nv i s,d=>by
  simp only[jl];split
  .simp[VR]
  .rename_i e;exact VR.keep (f:=(· != o)) ⟨k,fun _ _=>rfl⟩ m c (.nv i s) (by simpa [Va.all]using e) d
 |c,.ne i s j l a,d=>by
  simp only[jl];split
  .simp[VR]
  .rename_i e;exact VR.keep (f:=(· != o)) ⟨k,fun _ _=>rfl⟩ m c (.ne i s j l a) (by simpa [Va.all]using e) d
 |c,.fn f D,d=>by simp only[jl,VR]at *;obtain⟨cs,u,w⟩:=d;exact⟨cs,u,Me k m q y w⟩
 |c,.agg D,d=>by simp only[jl,VR]at *;obtain⟨cs,u,w⟩:=d;exact⟨cs,u,Me k m q y w⟩
 |c,.tup D,d=>by simp only[jl,VR]at *;obtain⟨cs,u,w⟩:=d;exact⟨cs,u,Me k m q y w⟩
 |c,.cnd b v,d=>by
  simp only[jl];split
  .rename_i e;exact VR.keep (f:=(· != o)) ⟨k,fun _ _=>rfl⟩ m c (.cnd b v) (by simpa only[Va.all]using e) d
  .simp[VR]
theorem Me(f:∀b,K b->K' b)(i:Mg (· != o) G G')(j:∀g,G[o]?=some g->DR K' h g.sv (.l r.2))(k:∀x∈r.2,x.length=r.1):∀{cs:List Value} {a:List Va},VRs K h G cs a->VRs K' h G' cs (lF o r a)
 |cs,[],d=>by simpa only[lF,VRs]using d
 |cs,v::a,d=>by simp only[lF,VRs]at *;obtain⟨c,e,m,n,p⟩:=d;exact⟨c,e,m,vI f i j k n,Me f i j k p⟩
end
end
section
variable {P:Program} {kl:List Bool} {n:Nat} {B:Bs} {Q:Qt} {E:ep} {H:List Ob}
theorem Wp.freeze{c:Code}(o:Nat){T:TypeId}{sz:Nat}{rows:List (List Dt)}(ho:Is (eB H o) (.buf T sz rows))(W:eE kl o=false)(hc:Wp P kl n B c Q (sx o (sz,rows) E) ((lG o (sz,rows) H).set o .gone)):Wp P kl n B c Q E H:=by
 intro hB a w hR;obtain⟨K,G,F,u,hE,hd,hn,Y⟩:=hR;have I:=zy ho (by simp);obtain⟨g,J,_⟩:=u.ghost I;have M:=(List.getElem?_eq_some_iff.1 J).1;let K':Nat->Prop:=fun b=>K b∨g.blk=some b;let G':=G.set o ⟨none,g.sv,[]⟩;have v:∀b,K b->K' b:=fun _ h=>.inl h;have C:Mg (· != o) G G':=fun i r hi d=>by
  show(G.set o _)[i]?=_;rw[getElem?_set_ne (by simpa using Ne.symm (by simpa using hi))];exact d
 have N:∀r,G[o]?=some r->DR K' w.heap r.sv (.l rows):=fun r d=>by
  rw[J]at d;cases d;exact ro u I J v fun b hb=>.inr hb
 have O:∀x∈(sz,rows).2,x.length=(sz,rows).1:=by obtain⟨_,xs,Z,_⟩:=u.ob o g _ J I;exact Lb Z
 have t:∀{i:Nat} {r:Gh},G'[i]?=some r->(i=o/\r=⟨none,g.sv,[]⟩)∨(i≠o/\G[i]?=some r):=by
  intro i r d;by_cases e:i=o
  .subst e;rw[show G'[i]?=some ⟨none,g.sv,[]⟩from getElem?_set_self M]at d;cases d;exact .inl ⟨rfl,rfl⟩
  .rw[show G'[i]?=G[i]? from getElem?_set_ne (Ne.symm e)]at d;exact .inr ⟨e,d⟩
 refine hc hB a w ⟨K',G',{ F with k:=fun b hb=>.inl (F.k b hb),knew:=fun b hb=>?_,glen:=?_,gown:=fun i r b d hb=>?_,gsame:=fun i g0 hi h0=>?_ },⟨?_,fun b hb=>?_,fun i r b d hb=>?_,fun i j r g'' b d R hb S=>?_,fun i r y d D=>?_,u.tb.mono ⟨fun _ h=>.inl h,fun _ _=>rfl⟩⟩,fun m=>?_,hd,hn,fun i hi=>?_⟩
 .rcases hb with hb|hb
  .exact F.knew b hb
  .exact .inr (F.gown o g b J (.inl hb))
 .show B.G0.length<=(G.set o _).length;rw[length_set];exact F.glen
 .rcases t d with⟨_,rfl⟩|⟨_,h⟩
  .exact(tp hb).elim
  .exact F.gown i r b h hb
 .have h1:=F.gsame i g0 hi h0;have U:o≠i:=fun e=>by rw[<-e]at hi;rw[show eE kl o=true from hi]at W;cases W
  show(G.set o _)[i]?=_;rw[getElem?_set_ne U];exact h1
 .show(G.set o _).length=_;rw[length_set,length_set,WJ,u.len]
 .rcases hb with hb|hb
  .exact u.kb b hb
  .exact(u.gb o g b J hb).1
 .rcases t d with⟨_,rfl⟩|⟨e,h⟩
  .exact(tp hb).elim
  .refine⟨(u.gbo i r b h hb).1,fun z=>?_⟩;rcases z with z|z
   .exact(u.gbo i r b h hb).2 z
   .exact e (u.ijo i o r g b h J hb (.inl z))
 .rcases t d with⟨_,rfl⟩|⟨_,h⟩
  .exact(tp hb).elim
  .rcases t R with⟨_,rfl⟩|⟨_,h'⟩
   .exact(tp S).elim
   .exact u.ijo i j r g'' b h h' hb S
 .rcases t d with⟨rfl,rfl⟩|⟨e,h⟩
  .rw[getElem?_set_self (by rw[WJ,<-u.len];exact M)]at D;cases D;trivial
  .rw[getElem?_set_ne (Ne.symm e),VE]at D;cases V:H[i]? with
   |none=>rw[V]at D;cases D
   |some x =>
    rw[V]at D;simp at D;subst D;have s:=u.ob i r x h V;cases x with
    |cells T vs =>
     obtain⟨b,cs,h1,U,h3⟩:=s;exact⟨b,cs,h1,U,Me v C N O h3⟩
    |buf X L A=>exact ObR.keep ⟨v,fun _ _=>rfl⟩ (Mg.refl (fun _=>true) G) (fun _ _=>rfl) rfl s
    |fx X L A=>exact ObR.keep ⟨v,fun _ _=>rfl⟩ (Mg.refl (fun _=>true) G) (fun _ _=>rfl) rfl s
    |sb X bs=>exact ObR.keep ⟨v,fun _ _=>rfl⟩ (Mg.refl (fun _=>true) G) (fun _ _=>rfl) rfl s
    |mp ag es=>exact ObR.keep ⟨v,fun _ _=>rfl⟩ (Mg.refl (fun _=>true) G) (fun _ _=>rfl) rfl s
    |mpb ag es bs cl=>exact ObR.keep ⟨v,fun _ _=>rfl⟩ (Mg.refl (fun _=>true) G) (fun _ _=>rfl) rfl s
    |it q cl seen =>
     simp only[nE];split
     .trivial
     .rename_i e;exact ObR.keep ⟨v,fun _ _=>rfl⟩ C (fun _ _=>rfl) (by simpa [Ob.all]using e) s
    |nst f X L k p A st =>
     simp only[nE];split
     .cases f <;> trivial
     .rename_i e;exact ObR.keep ⟨v,fun _ _=>rfl⟩ C (fun _ _=>rfl) (by simpa [Ob.all]using e) s
    |inn X L ins=>exact ObR.keep ⟨v,fun _ _=>rfl⟩ (Mg.refl (fun _=>true) G) (fun _ _=>rfl) rfl s
    |gone=>trivial
    |lost=>trivial
 .rw[nC];exact vI v C N O (hE m)
 .obtain⟨x,V,hkt⟩:=Y i hi;have U:o≠i:=fun e=>by rw[<-e]at hi;rw[show eE kl o=true from hi]at W;cases W
  refine⟨nE o (sz,rows) x,?_,sw hkt⟩;rw[getElem?_set_ne U,VE,V];rfl
end
attribute [go_sem] mT fz iq gX kI k0 i6 iA eW i2 Ak gu fw jr fH jl lF sx nE lG
mutual
theorem Kj{c:List Nat}{d:Nat}:∀{v u:Va},fz c v=some u->eW c d u=v
 |.ptr o a,u,h=>by
  simp only[fz]at h;split at h
  .rename_i j b;cases h;simp only[eW,qc (im b)]
  .cases h
 |.cs o a,u,h=>by
  simp only[fz]at h;split at h
  .rename_i j b;cases h;simp only[eW,qc (im b)]
  .cases h
 |.el o s i a,u,h=>by
  simp only[fz]at h;split at h
  .rename_i j b;cases h;simp only[eW,qc (im b)]
  .cases h
 |.buf o,u,h=>by
  simp only[fz]at h;split at h
  .rename_i j b;cases h;simp only[eW,qc (im b)]
  .cases h
 |.mp o,u,h=>by
  simp only[fz]at h;split at h
  .rename_i j b;cases h;simp only[eW,qc (im b)]
  .cases h
 |.np o,u,h=>by
  simp only[fz]at h;split at h
  .rename_i j b;cases h;simp only[eW,qc (im b)]
  .cases h
 |.sd o,u,h=>by
  simp only[fz]at h;split at h
  .rename_i j b;cases h;simp only[eW,qc (im b)]
  .cases h
 |.vw o _ _ _,u,h=>by
  simp only[fz]at h;split at h
  .rename_i j b;cases h;simp only[eW,qc (im b)]
  .cases h
 |.bufc o _,u,h=>by
  simp only[fz]at h;split at h
  .rename_i j b;cases h;simp only[eW,qc (im b)]
  .cases h
 |.nv o _,u,h=>by
  simp only[fz]at h;split at h
  .rename_i j b;cases h;simp only[eW,qc (im b)]
  .cases h
 |.ne o _ _ _ _,u,h=>by
  simp only[fz]at h;split at h
  .rename_i j b;cases h;simp only[eW,qc (im b)]
  .cases h
 |.fn f g,u,h=>by
  simp only[fz]at h;split at h
  .rename_i k e;cases h;simp only[eW,Ma e]
  .cases h
 |.agg g,u,h=>by
  simp only[fz]at h;split at h
  .rename_i k e;cases h;simp only[eW,Ma e]
  .cases h
 |.tup g,u,h=>by
  simp only[fz]at h;split at h
  .rename_i k e;cases h;simp only[eW,Ma e]
  .cases h
 |.cnd _ _,_,h=>by simp[fz]at h
 |.p x,u,h|.nils,u,h|.full x,u,h|.rp x,u,h|.nil,u,h|.raw x,u,h|.er x,u,h|.top,u,h=>by simp only[fz]at h;cases h;rfl
theorem Ma{a:List Nat}{b:Nat}:∀{d c:List Va},iq a d=some c->i2 a b c=d
 |[],c,h=>by simp only[iq]at h;cases h;rfl
 |v::d,c,h=>by
  simp only[iq]at h;split at h
  .rename_i u e f g;cases h;simp only[i2,Kj f,Ma g]
  .cases h
end
theorem ws{a:List Nat}{b:Nat}{x y:Ob}(h:k0 a x=some y):Ak a b y=x:=by
 cases x with
 |cells T g =>
  simp only[k0]at h;split at h
  .rename_i i d;cases h;simp only[Ak,Ma d]
  .cases h
 |it _ _ _=>simp[k0]at h
 |nst f T l k p c m =>
  simp only[k0]at h;split at h
  .rename_i j e;cases h;simp only[Ak,qc (im e)]
  .cases h
 |_=>simp only[k0]at h;cases h;rfl
mutual
theorem YN:∀v:Va,v.prune (fun _=>true)=v
 |.ptr _ _|.cs _ _|.el _ _ _ _|.buf _|.mp _|.np _|.sd _|.vw _ _ _ _|.bufc _ _|.nv _ _|.ne _ _ _ _ _=>by simp[Va.prune]
 |.fn f a=>by simp only[Va.prune,M9 a]
 |.agg a=>by simp only[Va.prune,M9 a]
 |.tup a=>by simp only[Va.prune,M9 a]
 |.cnd c v=>by simp only[Va.prune,Va.all_true,if_true]
 |.p _|.nils|.full _|.rp _|.nil|.raw _|.er _|.top=>rfl
theorem M9:∀a:List Va,dh (fun _=>true) a=a
 |[]=>rfl
 |v::a=>by simp only[dh,YN v,M9 a]
end
theorem WM:∀E:ep,fX (fun _=>true) E=E
 |[]=>rfl
 |(k,v)::E=>by simp only[fX,YN,WM E]
theorem WN:∀H:List Ob,fG (fun _=>true) H=H
 |[]=>rfl
 |x::H=>by simp only[fG,WN H];cases x <;> simp only[Ob.prune,M9,if_true]
def tN(H:List Ob):List Nat->Bool
 |[]=>true
 |i::a=>(eB H i).kept&&tN H a
theorem YS{H:List Ob}{a:List Nat}(h:tN H a=true):fH a H=fun _=>true:=by
 funext o;simp only[fH];by_cases b:o∈a
 .have:(eB H o).kept=true:=by
   induction a with
   |nil=>cases b
   |cons i a c =>
    simp only[tN,Bool.and_eq_true]at h;rcases mem_cons.1 b with rfl|b
    .exact h.1
    .exact c h.2 b
  simp[this]
 .simp[b]
theorem uo{H X:List Ob}{a:List Nat}{b:Nat}(k:i6 a H a=some X)(c:jr H.length a=true):fw H a (gu a b X)=H:=by
 obtain⟨f,d⟩:=UB c;obtain⟨p,l⟩:=Ug k;apply ext_getElem?;intro o;by_cases g:o∈a
 .obtain⟨j,i⟩:=getElem?_of_mem g;rw[KY f d (by rw[tX];omega) i,Mw];obtain⟨x,m,n⟩:=l j o i;rw[m];simp only[Option.map_some,ws n];have e:=d o g;rw[getElem?_eq_getElem e,Mk (getElem?_eq_getElem e)]
 .rcases Nat.lt_or_ge o H.length with h|h
  .exact KZ g h
  .rw[getElem?_eq_none h,getElem?_eq_none];rw[LB (by rw[tX];omega),tX];omega
section
variable {P:Program} {kl:List Bool} {n:Nat} {B:Bs} {K:ep->List Ob->Prop} {E:ep} {H:List Ob}
theorem Um{o:Oper}{c:Call}{g:Operand}{f:FuncId}{d args:List Va}{X:List Ob}{v:Va}(b:List Nat)(hs:Does P f args X fun r q=>r=v/\q=X)(t:o.op=.call c)(u:c.callee=.value g)(l:opOk true E g/\allOk true E c.args.toList)(x:opnd E g=.fn f d)
  (y:kI b (opnds E c.args.toList++d)=some args) (h:i6 b H b=some X) (e:jr H.length b=true) (m:tN H b=true) {a:Act} {w:World} {Q:Exit->Act->World->Prop} {s:Act->World->Prop} (z:Rel (cx P kl n B) E H a w)
  (p:∀j k,v.ok->RelV (cx P kl n B) E H j (eW b H.length v) a k->s (a.put o.dst j) k):o.wp P a w s Q:=by
 refine BT b hs t u l x y h e z fun j r q k ⟨A,C⟩ D i=>?_;subst A;subst C;rw[YS m,WM,WN,uo h e]at i;exact p j k D i
theorem Rg.callR{h:Array Oper}{o:Oper}{l:List Oper}{f:FuncId}{av args:List Va}{X:List Ob}{g:Bool}{v:Va}(b:List Nat)(hs:g=true->Does P f args X fun r U=>r=v/\U=X)(k:Is (hD E o) (some (f,av)))(hb:Is (gC h.toList E o) (some g))(M:Is (kI b av) (some args))(t:Is (i6 b H b) (some X))(m:jr H.length b=true)(u:tN H b=true)(A:ij n g E o)
  (x:ft P kl n B h K (ff P kl n h.toList l ⟨eL E o.dst (ig o.guard g (eW b H.length v)),H,True⟩)):Rg P kl n B h (o::l) E H K:=by
 unfold Is hD at k;unfold Is gC at hb;split at k;rotate_left
 .cases k
 rename_i c D;split at k;rotate_left
 .cases k
 rename_i V F;split at k;rotate_left
 .cases k
 rename_i f' N O;cases k;obtain⟨I,R⟩:=qj A D F;have d:=Rg.run x;intro J a w Q z p;cases s:o.guard with
 |none =>
  rw[s]at hb;obtain rfl:true=g:=Option.some.inj hb;refine wpList_plain s fun W i=>?_;rw[xK s]at d;exact Um b (hs rfl) D F R O M t m u z fun Y Z _ q=>i _ _ (d J _ _ _ (q.put o.dst (zQ I)) p)
 |some gw =>
  obtain⟨j,S⟩:=gw;rw[s]at hb;have T:=oQ z s hb;rw[tV s]at d;refine wpList_step fun W i=>?_;cases g with
  |true =>
   rw[if_pos T];exact Um b (hs rfl) D F R O M t m u z fun Y Z _ q=>i _ _ (d J _ _ _ (RelV.put (v:=.cnd true _) (by
    obtain⟨Kk,G,q1,q2,q3,q4,q5,q6,q7⟩:=q;exact⟨Kk,G,q1,q2,q3,q4,q5,q6,by simp only[VR];exact⟨fun _=>q7,fun e=>Bool.noConfusion e⟩⟩) o.dst (zQ I)) p)
  |false =>
   rw[if_neg (by rw[T];simp)];obtain⟨Kk,G,hX,hS,hE,L,hn,y⟩:=z;exact i _ _ (d J _ _ _ (RelV.put (C:=cx P kl n B) (v:=.cnd false _) ⟨Kk,G,hX,hS,hE,L,hn,y,by simp[VR]⟩ o.dst (zQ I)) p)
end
section
variable {P:Program} {kl:List Bool} {n:Nat} {B:Bs} {ops:List Oper} {K:ep->List Ob->Prop} {l:Plan} {obs:List En} {E:ep} {H:List Ob}
theorem du{k:Nat}{L:List Nat}{f:FuncId}{F args:List Va}{X Y:List Ob}{o:Oper}{v:Va}(b:List Nat)(hs:Does P f args X fun r G=>r=v/\G=Y)(s:Is ops[k]? (some o))(O:Is o.guard none)(d:Is (hD E o) (some (f,F)))(I:Is (kI b F) (some args))(t:Is (i6 b H b) (some X))(h:jr H.length b=true)(u:tN H b=true)(y:ij n true E o)
  (hag:qi L none (fw H b (gu b H.length Y)) obs)
  (i:i7 P kl n B ops.toArray K (gc P kl n ops l ⟨obs,eL E o.dst (eW b H.length v),fw H b (gu b H.length Y),True⟩)):Br P kl n B ops.toArray k L l obs E H K:=by
 unfold Is at *;unfold hD at d;split at d;rotate_left
 .cases d
 rename_i c z;split at d;rotate_left
 .cases d
 rename_i fop A;split at d;rotate_left
 .cases d
 rename_i W J M;cases d;obtain⟨R,j,m⟩:=qj y z A;have C:=Dr.run i;simp only at C;rw[<-ja s]at C;refine Br.eff (po:=none) (fun _=>?_) hag C;intro E' D a w Q Z S N;have g:=xd (gT s) D;rw[z]at g;have p:eK E fop=eK E' fop:=g fop (by simp[Op.operands,Call.operands,A]);have e:Agree c.args.toList E E':=fun x T=>g x (by simp only[Op.operands,Call.operands,Array.toList_append,mem_append];exact .inr T);rw[Agree.opOk p]at j;rw[Agree.allOk e]at m;rw[Agree.opnd p]at M;rw[Agree.opnds e]at I;rw[ja s]at N;unfold wpOp;simp only[gT s];rw[if_pos (by simp[Region.wanted,O])];refine .inl (BT b hs z A ⟨j,m⟩ M I t h S fun c' r G w' ⟨U,V⟩ _ q=>?_);subst U;subst V;rw[YS u,WM,WN]at q;exact N _ _ (q.put o.dst (zQ R))
theorem Br.callR{k:Nat}{L:List Nat}{f:FuncId}{av args:List Va}{X:List Ob}{g:Bool}{o:Oper}{v:Va}(b:List Nat)(hs:g=true->Does P f args X fun r X'=>r=v/\X'=X)(y:Is ops[k]? (some o))(h:Is (hD E o) (some (f,av)))(hb:Is (gC ops E o) (some g))(T:Is (kI b av) (some args))(z:Is (i6 b H b) (some X))(i:jr H.length b=true)(A:tN H b=true)(U:ij n g E o)
  (hag:qi L none H obs)
  (D:i7 P kl n B ops.toArray K (gc P kl n ops l ⟨obs,eL E o.dst (ig o.guard g (eW b H.length v)),H,True⟩)):Br P kl n B ops.toArray k L l obs E H K:=by
 unfold Is at *;unfold hD at h;split at h;rotate_left
 .cases h
 rename_i c O;split at h;rotate_left
 .cases h
 rename_i fop R;split at h;rotate_left
 .cases h
 rename_i f' caps V;cases h;obtain⟨W,p,q⟩:=qj U O R;have Y:=Dr.run D;simp only at Y;rw[<-ja y]at Y;refine Br.eff (po:=none) (fun _=>?_) hag Y;intro E' F a w Q K' S u;have s:=xd (gT y) F;rw[O]at s;have I:eK E fop=eK E' fop:=s fop (by simp[Op.operands,Call.operands,R]);have m:Agree c.args.toList E E':=fun x hx=>s x (by simp only[Op.operands,Call.operands,Array.toList_append,mem_append];exact .inr hx);rw[Agree.opOk I]at p;rw[Agree.allOk m]at q;rw[Agree.opnd I]at V;rw[Agree.opnds m]at T;rw[ja y]at u;unfold wpOp;simp only[gT y];unfold gC at hb;cases d:o.guard with
 |none =>
  rw[d]at hb u;obtain rfl:true=g:=Option.some.inj hb;rw[if_pos (by simp[Region.wanted,d])];exact .inl (Um b (hs rfl) O R ⟨p,q⟩ V T z i A S fun c' w' _ t=>u _ _ (t.put o.dst (zQ W)))
 |some gw =>
  obtain⟨j,J⟩:=gw;rw[d]at hb u;have M:iE ops.toArray.toList E j J=some g:=by simpa using hb
  rw[<-A4 (gT y) d F]at M;have hw:=oQ S d M;cases g with
  |true =>
   rw[if_pos hw];exact .inl (Um b (hs rfl) O R ⟨p,q⟩ V T z i A S fun c' w' _ t=>u _ _ (RelV.put (v:=.cnd true _) (by
    obtain⟨Kk,G,q1,q2,q3,q4,q5,q6,q7⟩:=t;exact⟨Kk,G,q1,q2,q3,q4,q5,q6,by simp only[VR];exact⟨fun _=>q7,fun e=>Bool.noConfusion e⟩⟩) o.dst (zQ W)))
  |false =>
   rw[if_neg (by rw[hw];simp)];obtain⟨Kk,G,hX,hS,hE,Z,hn,N⟩:=S;exact u _ _ (RelV.put (C:=cx P kl n B) (v:=.cnd false _) ⟨Kk,G,hX,hS,hE,Z,hn,N,by simp[VR]⟩ o.dst (zQ W))
end
attribute [go_sem] tN
section
variable {K V Z:Type} [DecidableEq K]
def zS:List (K×V)->K->Option V
 |[],_=>none
 |p::l,k=>bif decide (p.1=k)then some p.2 else zS l k
def eD:List (K×V)->K->V->List (K×V)
 |[],k,v=>[(k,v)]
 |p::l,k,v=>bif decide (p.1=k)then(k,v)::l else p::eD l k v
def jm:List (K×V)->K->List (K×V)
 |[],_=>[]
 |p::l,k=>bif decide (p.1=k)then l else p::jm l k
omit [DecidableEq K] in
def zz(kd:K->Dt)(e:V->List Dt)(l:List (K×V)):List (Dt×List Dt):=l.map fun p=>(kd p.1,e p.2)
def fc{A:Type}(a:A)(k:A->Option Z):Option Z:=k a
theorem il{A:Type}{a:A}{k:A->Option Z}{z:Z}(h:fc a k=some z):∃x,a=x/\k x=some z:=⟨a,rfl,h⟩
variable {kd:K->Dt} {e:V->List Dt}
theorem Wi(c:∀a b,fC (kd a) (kd b)=decide (a=b)):∀(l:List (K×V)) (k:K),gL (zz kd e l) (kd k)=(zS l k).map e
 |[],_=>rfl
 |p::l,k=>by
  have d:=Wi c l k;simp only[zz]at d;simp only[zz,map_cons,gL,zS,c,d];cases decide (p.1=k) <;> rfl
theorem oH(c:∀a b,fC (kd a) (kd b)=decide (a=b)):∀(l:List (K×V)) (k:K) (v:V),fU (zz kd e l) (kd k) (e v)=zz kd e (eD l k v)
 |[],_,_=>rfl
 |p::l,k,v=>by
  have d:=oH c l k v;simp only[zz]at d;simp only[zz,map_cons,fU,eD,c,d];cases decide (p.1=k) <;> rfl
theorem Ud(c:∀a b,fC (kd a) (kd b)=decide (a=b)):∀(l:List (K×V)) (k:K),iC (zz kd e l) (kd k)=zz kd e (jm l k)
 |[],_=>rfl
 |p::l,k=>by
  have d:=Ud c l k;simp only[zz]at d;simp only[zz,map_cons,iC,jm,c,d];cases decide (p.1=k) <;> rfl
theorem ju(c:∀a b,fC (kd a) (kd b)=decide (a=b))(l:List (K×V))(k:K)(d:V):qd (zz kd e l) (kd k) (e d)=e ((zS l k).getD d):=by
 simp only[qd,Wi c];cases zS l k <;> rfl
theorem jv(c:∀a b,fC (kd a) (kd b)=decide (a=b))(l:List (K×V))(k:K):(gL (zz kd e l) (kd k)).isSome=(zS l k).isSome:=by
 rw[Wi c];cases zS l k <;> rfl
omit [DecidableEq K] in
theorem nN(l:List (K×V)):(zz kd e l).length=l.length:=by simp[zz]
end
theorem vU{K V:Type}(a:K->Dt)(e:V->List Dt):zz a e []=[]:=rfl
theorem eZ(a b:eo):fC (Dt.s a) (Dt.s b)=decide (a=b):=rfl
theorem xaa(k:IntKind)(a b:Int):fC (Dt.i k a) (Dt.i k b)=decide (a=b):=rfl
theorem qG{V:Type}(e:V->List Dt):∀l:List (eo×V),iu (.tk .str) (zz Dt.s e l)=True
 |[]=>by simp only[zz,map_nil,iu]
 |p::l=>by have a:=qG e l;simp only[zz]at a;simp only[zz,map_cons,iu,js,a,and_self]
theorem qH{V:Type}(k:IntKind)(e:V->List Dt):∀l:List (Int×V),iu (.tk (.int k)) (zz (Dt.i k) e l)=True
 |[]=>by simp only[zz,map_nil,iu]
 |p::l=>by have a:=qH k e l;simp only[zz]at a;simp only[zz,map_cons,iu,js,a,and_self]
theorem ll{K V:Type}{kd:K->List Dt}{ks:List Kd}(h:∀x,zJ ks (kd x))(e:V->List Dt):∀l:List (K×V),iu (.ks ks) (zz (fun x=>Dt.a (kd x)) e l)=True
 |[]=>by simp only[zz,map_nil,iu]
 |p::l=>by have b:=ll h e l;simp only[zz]at b;simp only[zz,map_cons,iu,js,b,and_true,eq_true (h p.1)]
attribute [go_sem] vU qG qH nN
def Nv(P:Program)(f:FuncId)(args:List Va)(v:Va):Prop :=
 ∀K (w:World) vals,VRs K w.heap [] vals args->∃c,(callFunc f vals.toArray).run P w=.ok (.value c) w/\VR K w.heap [] c v
theorem YW{P:Program}{o:Oper}{c:Call}{d:Operand}{f:FuncId}{cs:List Value}{a:Act}{w:World}(i:o.op=.call c)(h:c.callee=.value d)(j:a.eval d=.func (.func f) #[] cs.toArray) :
  (execOp a.eval o).run P w=(callFunc f ((c.args.toList.map a.eval)++cs).toArray).run P w:=by
 obtain⟨g,args,b⟩:=c;obtain⟨k,op,l,pos,m,n⟩:=o;cases i;simp only at h;subst h;have e:args.map a.eval=(args.toList.map a.eval).toArray:=by cases args;simp
 simp only[execOp,resolve,j,Deferred.ofValue,Sem.run_bind,Sem.run_pure,Result.andThen_ok,invoke];congr 2;simp
section
variable {P:Program} {kl:List Bool} {n:Nat} {B:Bs} {ops:Array Oper} {K:ep->List Ob->Prop} {E:ep} {H:List Ob}
theorem jZ{o:Oper}{c:Call}{b:Operand}{f:FuncId}{d args:List Va}{v:Va}(hs:Nv P f args v)(z:o.op=.call c)(A:c.callee=.value b)
  (i:opOk true E b/\allOk true E c.args.toList) (C:opnd E b=.fn f d) (D:jb H (opnds E c.args.toList++d)=some args) (e:v.flat=true) {a:Act} {w:World} {Q:Exit->Act->World->Prop} {t:Act->World->Prop}
  (F:Rel (cx P kl n B) E H a w) (I:v.ok->∀l u,RelV (cx P kl n B) E H l v a u->t (a.put o.dst l) u):o.wp P a w t Q:=by
 obtain⟨Kk,G,J,x,m,p,K,q⟩:=F;have g:=zD m rfl b i.1;rw[C]at g;simp only[VR]at g;obtain⟨cs,r,s⟩:=g;have h:=xe m rfl c.args.toList i.2;have j:=xH x D (h.append s);obtain⟨l,k,y⟩:=hs _ w _ j;unfold Oper.wp;rw[YW z A r,k];simp only[Oper.upon];exact I y.ok l w ⟨Kk,G,J,x,m,p,K,q,Mq e y⟩
theorem dB{o:Oper}{l:List Oper}{f:FuncId}{av args:List Va}{g:Bool}{v:Va}(hs:g=true->Nv P f args v)(i:Is (hD E o) (some (f,av)))(hb:Is (gC ops.toList E o) (some g))(J:Is (jb H av) (some args))(x:ij n g E o)(L:Is v.flat true)
  (d:(g=true->v.ok)->ft P kl n B ops K (ff P kl n ops.toList l ⟨eL E o.dst (ig o.guard g v),H,True⟩)):Rg P kl n B ops (o::l) E H K:=by
 unfold Is hD at i;unfold Is gC at hb;split at i;rotate_left
 .cases i
 rename_i c y;split at i;rotate_left
 .cases i
 rename_i U z;split at i;rotate_left
 .cases i
 rename_i Y M N;cases i;obtain⟨A,O⟩:=qj x y z;cases m:o.guard with
 |none =>
  rw[m]at hb;obtain rfl:true=g:=Option.some.inj hb;intro t a w Q s u;refine wpList_plain m fun V h=>?_;refine jZ (hs rfl) y z O N J L s fun p R w' b=>?_;have k:=d fun _=>p;rw[xK m]at k;exact h _ _ (Rg.run k t _ _ _ (b.put o.dst (zQ A)) u)
 |some W =>
  obtain⟨j,S⟩:=W;rw[m]at hb;intro t a w Q s u;have T:=oQ s m hb;refine wpList_step fun V h=>?_;cases g with
  |true =>
   rw[if_pos T];refine jZ (hs rfl) y z O N J L s fun p R w' b=>?_;have k:=d fun _=>p;rw[tV m]at k;have b:RelV (cx P kl n B) E H R (.cnd true v) a w':=by obtain⟨Kk,G,C,D,F,q,I,r,X⟩:=b;exact⟨Kk,G,C,D,F,q,I,r,by simp only[VR];exact⟨fun _=>X,fun e=>Bool.noConfusion e⟩⟩
   exact h _ _ (Rg.run k t _ _ _ (b.put o.dst (zQ A)) u)
  |false =>
   rw[if_neg (by rw[T];simp)];obtain⟨Kk,G,C,D,F,q,I,r⟩:=s;have b:RelV (cx P kl n B) E H undef (.cnd false v) a w:=⟨Kk,G,C,D,F,q,I,r,by simp[VR]⟩;have k:=d fun e=>Bool.noConfusion e;rw[tV m]at k;exact h _ _ (Rg.run k t _ _ _ (b.put o.dst (zQ A)) u)
end
def Hk(m:Nat)(b:List Bool)(v:Va)(Y H:List Ob)(a:Pv):Prop :=
 a.ok/\b.length<=m/\m<=H.length/\(gg m H a.v).all (fun o=>decide (o<m))=true/\ir (fun o=>decide (o<m)) (gh m H (H.take m))=true /\
  fY (gg m H a.v) v/\leH (gh m H (H.take m)) Y/\Y.length=m/\v.all (fun o=>decide (o<m))=true/\ir (fun o=>decide (o<m)) Y=true
section
variable {P:Program} {kl:List Bool} {rs:List ResultVar} {m:Nat} {E:ep} {H Y:List Ob} {v:Va}
theorem yg(h:Hk m kl v Y H (gf P E H rs)):ic P rs m kl (fun r X=>r=v/\X=Y) E H:=by obtain⟨b,c,d,e,f,g,i,j,k,a⟩:=h;exact⟨b,c,d,e,f,_,_,g,i,j,k,a,rfl,rfl⟩
theorem gP(h:Hk m kl v Y H (gf P E H rs)):mU P rs m kl (fun r X=>r=v/\X=Y) .ret E H:=yg h
end
theorem ui{n:Nat}{a:List (List Dt)}{i:Nat}{r:List Dt}(h:fe n a)(c:r.length=n):fe n (a.set i r)=True :=
 eq_true fun x b=>by
  rcases mem_or_eq_of_mem_set b with b|rfl
  .exact h x b
  .exact c
theorem mB(n:Nat)(a b:List (List Dt)):fe n (a++b)=(fe n a/\fe n b):=by unfold fe;simp only[mem_append,eq_iff_iff];exact⟨fun h=>⟨fun r c=>h r (.inl c),fun r c=>h r (.inr c)⟩,fun h r c=>c.elim (h.1 r) (h.2 r)⟩
theorem rK{n k:Nat}{a:List (List Dt)}(h:fe n a):fe n (a.take k)=True:=eq_true fun x b=>h x (mem_of_mem_take b)
theorem rL{n k:Nat}{a:List (List Dt)}(h:fe n a):fe n (a.drop k)=True:=eq_true fun x b=>h x (mem_of_mem_drop b)
theorem znA{n k:Nat}{r:List Dt}(a:r.length=n):fe n (List.replicate k r)=True:=eq_true fun x b=>by rw[(mem_replicate.1 b).2];exact a
attribute [go_sem] length_map Int.toNat_natCast rI sD od bne_self_eq_false
attribute [go_sem] Hk ui mB rK rL znA
def w8(s:List UInt8)(c:Int):Int:=Lib.indexByte s c.toNat.toUInt8
def xz(s:List UInt8)(c:Int):Int:=(s.count c.toNat.toUInt8:Nat)
def eU(a b:List UInt8):Int:=Lib.compareBytes a b
theorem Bm(c:UInt8):∀s:List UInt8,-1<=Lib.indexByte s c/\(Lib.indexByte s c<s.length∨Lib.indexByte s c=-1)
 |[]=>by simp[Lib.indexByte]
 |b::s=>by
  have:=Bm c s;unfold Lib.indexByte;simp only[length_cons];split
  .omega
  .split <;> (rename_i h;simp only[beq_iff_eq]at h;omega)
theorem j7(s:List UInt8)(c:Int):-1<=w8 s c/\(w8 s c<s.length∨w8 s c=-1):=Bm c.toNat.toUInt8 s
theorem Yz(s:List UInt8)(c:Int):0<=xz s c/\xz s c<=s.length:=by unfold xz;have:=count_le_length (a:=c.toNat.toUInt8) (l:=s);omega
theorem lU(a b:List UInt8):-1<=eU a b/\eU a b<=1:=by
 unfold eU;induction a generalizing b with
 |nil=>cases b <;> simp[Lib.compareBytes]
 |cons x a c =>
  cases b with
  |nil=>simp[Lib.compareBytes]
  |cons y b =>
   unfold Lib.compareBytes;have:=c b;split
   .omega
   .split <;> omega
theorem Nv.indexByte {P:Program} {f:FuncId} {fn:Func} (e:P.funcs[f]?=some fn) (d:(fn.name == "runtime.NumGoroutine")=false) (hb:fn.body.isNone=true) (g:Extern.findNext fn=none) (he:Extern.find fn=some Extern.BytealgIndexByte.indexByte) (s:List UInt8) (c:Int) :
  Nv P f [.p (.s s),.p (.i .u8 c)] (.p (.i .i64 (w8 s c))):=by
 intro K w vals h;simp only[VRs,VR,DR]at h;obtain⟨a,r,rfl,⟨rfl,j⟩,b,k,rfl,⟨rfl,l⟩,rfl⟩:=h;refine⟨.int .i64 (w8 s c),?_,?_⟩
 .rw[run_callFunc_extern e d hb g he,Lib.run_indexByteString];simp only[Result.andThen,w8]
 .simp only[VR,DR,true_and];have:=j7 s c;simp only[eC]at j;simp only[Fits,lo,hi];omega
theorem Nv.countByte {P:Program} {f:FuncId} {fn:Func} (e:P.funcs[f]?=some fn) (d:(fn.name == "runtime.NumGoroutine")=false) (hb:fn.body.isNone=true) (g:Extern.findNext fn=none) (he:Extern.find fn=some Extern.BytealgCount.count) (s:List UInt8) (c:Int) :
  Nv P f [.p (.s s),.p (.i .u8 c)] (.p (.i .i64 (xz s c))):=by
 intro K w vals h;simp only[VRs,VR,DR]at h;obtain⟨a,r,rfl,⟨rfl,j⟩,b,k,rfl,⟨rfl,l⟩,rfl⟩:=h;refine⟨.int .i64 (xz s c),?_,?_⟩
 .rw[run_callFunc_extern e d hb g he,Lib.run_countString];simp only[Result.andThen,xz,Lib.countByte]
 .simp only[VR,DR,true_and];have:=Yz s c;simp only[eC]at j;simp only[Fits,lo,hi];omega
theorem Nv.compare {P:Program} {f:FuncId} {fn:Func} (d:P.funcs[f]?=some fn) (c:(fn.name == "runtime.NumGoroutine")=false) (hb:fn.body.isNone=true) (e:Extern.findNext fn=none) (he:Extern.find fn=some Extern.BytealgCompare.compare) (a b:List UInt8) :
  Nv P f [.p (.s a),.p (.s b)] (.p (.i .i64 (eU a b))):=by
 intro K w vals h;simp only[VRs,VR,DR]at h;obtain⟨x,r,rfl,⟨rfl,j⟩,y,k,rfl,⟨rfl,g⟩,rfl⟩:=h;refine⟨.int .i64 (eU a b),?_,?_⟩
 .rw[run_callFunc_extern d c hb e he,Lib.run_compareString];simp only[Result.andThen,eU]
 .simp only[VR,DR,true_and];have:=lU a b;simp only[Fits,lo,hi];omega
theorem sN(d:Dt):1<=md d:=by cases d <;> simp only[md] <;> omega
theorem sP{r:List Dt}(h:r≠[]):1<=fQ r:=by
 cases r with
 |nil=>exact absurd rfl h
 |cons d r=>simp only[fQ];have:=sN d;omega
theorem nZ{r:List Dt}:∀{a:List (List Dt)},r∈a->fQ r<=kL a
 |x::a,h=>by
  simp only[kL];rcases mem_cons.1 h with rfl|h
  .omega
  .have:=nZ h;omega
theorem Ls{α:Type}{f:α->List Dt}{l:List α}{x:α}(h:x∈l):fQ (f x)<=kL (l.map f):=nZ (mem_map_of_mem h)
theorem Lr{α:Type}{f:α->List Dt}(a:∀x,f x≠[]):∀l:List α,l.length<=kL (l.map f)
 |[]=>by simp[kL]
 |x::l=>by have:=Lr a l;have:=sP (a x);simp only[map_cons,kL,length_cons];omega
def NvI(P:Program)(f:FuncId):Prop:=∀(c:Value) (w:World),(callFunc f #[c]).run P w=.ok (.value c) w
theorem NvI.noEscape {P:Program} {f:FuncId} {fn:Func} (b:P.funcs[f]?=some fn) (a:(fn.name == "runtime.NumGoroutine")=false) (hb:fn.body.isNone=true) (d:Extern.findNext fn=none) (he:Extern.find fn=some Extern.AbiNoEscape.same):NvI P f:=by intro c w;rw[run_callFunc_extern b a hb d he,Lib.run_noEscape];rfl
section
variable {P:Program} {kl:List Bool} {n:Nat} {B:Bs} {ops:Array Oper} {K:ep->List Ob->Prop} {E:ep} {H:List Ob}
theorem YV{o:Oper}{c:Call}{d:Operand}{f:FuncId}{e:List Va}{v:Va}(hs:NvI P f)(u:o.op=.call c)(x:c.callee=.value d)
  (k:opOk true E d/\allOk true E c.args.toList) (y:opnd E d=.fn f e) (z:opnds E c.args.toList++e=[v]) {a:Act} {w:World} {Q:Exit->Act->World->Prop} {t:Act->World->Prop}
  (A:Rel (cx P kl n B) E H a w) (C:∀l,RelV (cx P kl n B) E H l v a w->t (a.put o.dst l) w):o.wp P a w t Q:=by
 obtain⟨Kk,G,D,F,m,p,I,q⟩:=A;have g:=zD m rfl d k.1;rw[y]at g;simp only[VR]at g;obtain⟨cs,r,s⟩:=g;have h:=xe m rfl c.args.toList k.2;have b:=h.append s;rw[z]at b;simp only[VRs]at b;obtain⟨l,J,i,j,rfl⟩:=b;unfold Oper.wp;rw[YW u x r,i,hs l w];simp only[Oper.upon];exact C l ⟨Kk,G,D,F,m,p,I,q,j⟩
theorem ek{o:Oper}{l:List Oper}{f:FuncId}{v:Va}{g:Bool}(hs:NvI P f)(i:Is (hD E o) (some (f,[v])))(hb:Is (gC ops.toList E o) (some g))(z:ij n g E o)
  (d:ft P kl n B ops K (ff P kl n ops.toList l ⟨eL E o.dst (ig o.guard g v),H,True⟩)):Rg P kl n B ops (o::l) E H K:=by
 unfold Is hD at i;unfold Is gC at hb;split at i;rotate_left
 .cases i
 rename_i c A;split at i;rotate_left
 .cases i
 rename_i T C;split at i;rotate_left
 .cases i
 rename_i U r M;have s:=Option.some.inj i;obtain rfl:U=f:=congrArg Prod.fst s;have u:opnds E c.args.toList++r=[v]:=congrArg Prod.snd s;obtain⟨D,N⟩:=qj z A C;cases m:o.guard with
 |none =>
  rw[m]at hb;obtain rfl:true=g:=Option.some.inj hb;intro x a w Q t y;refine wpList_plain m fun V h=>?_;refine YV hs A C N M u t fun O b=>?_;have k:=d;rw[xK m]at k;exact h _ _ (Rg.run k x _ _ _ (b.put o.dst (zQ D)) y)
 |some W =>
  obtain⟨j,R⟩:=W;rw[m]at hb;intro x a w Q t y;have S:=oQ t m hb;refine wpList_step fun V h=>?_;cases g with
  |true =>
   rw[if_pos S];refine YV hs A C N M u t fun O b=>?_;have k:=d;rw[tV m]at k;have b:RelV (cx P kl n B) E H O (.cnd true v) a w:=by obtain⟨Kk,G,F,I,J,p,L,q,u⟩:=b;exact⟨Kk,G,F,I,J,p,L,q,by simp only[VR];exact⟨fun _=>u,fun e=>Bool.noConfusion e⟩⟩
   exact h _ _ (Rg.run k x _ _ _ (b.put o.dst (zQ D)) y)
  |false =>
   rw[if_neg (by rw[S];simp)];obtain⟨Kk,G,F,I,J,p,L,q⟩:=t;have b:RelV (cx P kl n B) E H undef (.cnd false v) a w:=⟨Kk,G,F,I,J,p,L,q,by simp[VR]⟩;have k:=d;rw[tV m]at k;exact h _ _ (Rg.run k x _ _ _ (b.put o.dst (zQ D)) y)
end
theorem WF{Z A:Type}{z:Z}{g:Bool}{a:Option A}{d:A}{k:A->Option Z}(h:callG g a d k=some z):∃x,(g=true->a=some x)/\(g=false->x=d)/\k x=some z:=by
 cases g with
 |true=>obtain⟨x,b,c⟩:=ze h;exact⟨x,fun _=>b,fun e=>Bool.noConfusion e,c⟩
 |false=>exact⟨d,fun e=>Bool.noConfusion e,fun _=>rfl,h⟩
theorem Rel.forget{C:Cx}{E:ep}{H:List Ob}{a:Act}{w:World}{b:List Nat}{X:List Ob}(D:i6 b H b=some X)(k:jr H.length b=true)(F:Rel C E H a w) :
  Rel C (fX (fH b H) E) (fw (fG (fH b H) H) b (gu b H.length X)) a w:=by
 obtain⟨Kk,G,I,f,J,K,L,M⟩:=F;obtain⟨u,l⟩:=UB k;obtain⟨Q,N⟩:=Ug D;have n:(fG (fH b H) H).length=H.length:=by rw[oI,length_map]
 have A:Mn Kk Kk w.heap w.heap:=⟨fun _ h=>h,fun _ _=>rfl⟩;have p:Mg (fH b H) G G:=fun _ _ _ h=>h;have q:b.length<=(gu b H.length X).length:=by rw[tX];omega
 have c:(fw (fG (fH b H) H) b (gu b H.length X)).length=H.length:=by rw[LB q,tX,n];omega
 have r:∀(o:Nat) (y:Ob),(fw (fG (fH b H) H) b (gu b H.length X))[o]?=some y->∃x,H[o]?=some x/\(y=x∨y=x.prune (fH b H)):=by
  intro o y v;rcases WA u (fun i hi=>by rw[n];exact l i hi) q v with⟨j,z,h⟩|⟨_,_,h⟩|⟨j,z,_,h⟩
  .rw[Mw]at h;obtain⟨x,e,O⟩:=N j o z;rw[e]at h;simp only[Option.map_some,ws O,Option.some.injEq]at h;have d:=l o (mem_of_getElem? z);rw[Mk (getElem?_eq_getElem d)]at h;exact⟨_,getElem?_eq_getElem d,.inl h.symm⟩
  .rw[oI,getElem?_map]at h;cases e:H[o]? with
   |none=>rw[e]at h;cases h
   |some x=>rw[e]at h;exact⟨x,rfl,.inr (Option.some.inj h).symm⟩
  .have:=(List.getElem?_eq_some_iff.1 h).1;rw[tX]at this;omega
 refine⟨Kk,G,I,⟨by rw[c];exact f.len,f.kb,f.gbo,f.ijo,fun o g y s v=>?_,f.tb⟩,fun m=>by rw[rG];exact VR.prune A p _ _ (J m),K,L,fun o P=>?_⟩
 .obtain⟨x,e,rfl|rfl⟩:=r o y v
  .exact f.ob o g _ s e
  .exact ObR.prune A p (fun _ _=>rfl) (f.ob o g _ s e)
 .obtain⟨x,e,B⟩:=M o P;have d:=(List.getElem?_eq_some_iff.1 e).1;obtain⟨R,t,h⟩:=r o _ (getElem?_eq_getElem (by rw[c];exact d));rw[e]at t;cases t;refine⟨_,getElem?_eq_getElem (by rw[c];exact d),?_⟩;rcases h with h|h
  .rw[h];exact B
  .rw[h];exact dl B
section
variable {P:Program} {kl:List Bool} {n:Nat} {B:Bs} {ops:Array Oper} {K:ep->List Ob->Prop} {E:ep} {H:List Ob}
theorem dD{o:Oper}{l:List Oper}{f:FuncId}{av args:List Va}{X Y:List Ob}{g:Bool}{v:Va}(b:List Nat)(hs:g=true->Does P f args X fun r y=>r=v/\y=Y)(V:g=false->Y=X)(k:Is (hD E o) (some (f,av)))(hb:Is (gC ops.toList E o) (some g))(N:Is (kI b av) (some args))(m:Is (i6 b H b) (some X))(h:jr H.length b=true)(z:ij n g E o)
  (t:ft P kl n B ops K (ff P kl n ops.toList l ⟨eL (fX (fH b H) E) o.dst (ig o.guard g (eW b H.length v)),fw (fG (fH b H) H) b (gu b H.length Y),True⟩)):Rg P kl n B ops (o::l) E H K:=by
 unfold Is hD at k;unfold Is gC at hb;split at k;rotate_left
 .cases k
 rename_i c A;split at k;rotate_left
 .cases k
 rename_i W D;split at k;rotate_left
 .cases k
 rename_i f' O R;cases k;obtain⟨F,S⟩:=qj z A D;have d:=Rg.run t;intro I a w Q x p;cases s:o.guard with
 |none =>
  rw[s]at hb;obtain rfl:true=g:=Option.some.inj hb;refine wpList_plain s fun Z i=>?_;rw[xK s]at d;refine BT b (hs rfl) A D S R N m h x fun c' r y w' ⟨J,L⟩ _ q=>?_;subst J;subst L;exact i _ _ (d I _ _ _ (q.put o.dst (zQ F)) p)
 |some gw =>
  obtain⟨j,T⟩:=gw;rw[s]at hb;have U:=oQ x s hb;rw[tV s]at d;refine wpList_step fun Z i=>?_;cases g with
  |true =>
   rw[if_pos U];refine BT b (hs rfl) A D S R N m h x fun c' r y w' ⟨J,L⟩ _ q=>?_;subst J;subst L;exact i _ _ (d I _ _ _ (RelV.put (v:=.cnd true _) (by
    obtain⟨Kk,G,q1,q2,q3,q4,q5,q6,q7⟩:=q;exact⟨Kk,G,q1,q2,q3,q4,q5,q6,by simp only[VR];exact⟨fun _=>q7,fun e=>Bool.noConfusion e⟩⟩) o.dst (zQ F)) p)
  |false =>
   rw[if_neg (by rw[U];simp)];rw[V rfl]at d;obtain⟨Kk,G,hX,hS,hE,M,hn,u⟩:=x.forget m h;exact i _ _ (d I _ _ _ (RelV.put (C:=cx P kl n B) (v:=.cnd false _) ⟨Kk,G,hX,hS,hE,M,hn,u,by simp[VR]⟩ o.dst (zQ F)) p)
end
def VK(s:Nat)(H:List Ob):List Nat->Bool
 |[]=>true
 |i::a=>((eB H i).kept||decide (i=s))&&VK s H a
def u1(s:Nat)(H:List Ob)(a:List Nat):Bool:=a.contains s&&!(eB H s).kept&&VK s H a
section
variable {P:Program} {kl:List Bool} {n:Nat} {B:Bs} {ops:List Oper} {K:ep->List Ob->Prop} {l:Plan} {obs:List En} {E:ep} {H:List Ob}
end
attribute [go_sem] VK u1
theorem xN:∀a b:List (List Dt),gD (a++b)=gD a++gD b
 |[],b=>rfl
 |[]::a,b=>by simp only[cons_append,gD,xN a b]
 |[.i _ n]::a,b=>by simp only[cons_append,gD,xN a b]
 |[.b _]::a,b=>by simp only[cons_append,gD,xN a b]
 |[.s _]::a,b=>by simp only[cons_append,gD,xN a b]
 |[.l _]::a,b=>by simp only[cons_append,gD,xN a b]
 |[.a _]::a,b=>by simp only[cons_append,gD,xN a b]
 |[.r _]::a,b=>by simp only[cons_append,gD,xN a b]
 |(_::_::_)::a,b=>by simp only[cons_append,gD,xN a b]
theorem YL:∀a b:List (List Dt),fK (a++b)=(fK a/\fK b)
 |[],b=>by simp[fK]
 |[]::a,b=>by simp[fK]
 |[.i _ n]::a,b=>by simp[fK,YL a b,and_assoc]
 |[.b _]::a,b=>by simp[fK]
 |[.s _]::a,b=>by simp[fK]
 |[.l _]::a,b=>by simp[fK]
 |[.a _]::a,b=>by simp[fK]
 |[.r _]::a,b=>by simp[fK]
 |(_::_::_)::a,b=>by simp[fK]
theorem kW(a b:List Int):strOf (a++b)=strOf a++strOf b:=by simp only[strOf,map_append]
theorem rO:strOf []=[]:=rfl
theorem pf(n:Int)(l:List Int):strOf (n::l)=UInt8.ofNat n.toNat::strOf l:=rfl
theorem zoC(s:eo):strOf (KK s)=s:=by simp only[strOf,KK,map_map];refine Eq.trans (map_congr_left fun b _=>?_) (map_id _);simp
theorem znQ(s:eo):(KK s).length=s.length:=by simp only[KK,length_map]
attribute [go_sem] xN YL fK kW rO pf gD zoC znQ
theorem sd{p:Prop}(h:p:=by(repeat' apply And.intro) <;> first|assumption|omega|(intros;omega)|(intro a;simp only[Bool.and_eq_true,Bool.or_eq_true,Bool.not_eq_true',decide_eq_true_eq,decide_eq_false_iff_not]at a;omega)|(simp only[Bool.and_eq_true,Bool.or_eq_true,Bool.not_eq_true',Bool.and_eq_false_iff,Bool.or_eq_false_iff,Bool.not_eq_false',decide_eq_true_eq,decide_eq_false_iff_not];omega)|(intros;simp only[*,Bool.not_false,Bool.not_true,Bool.and_self,Bool.or_self,Bool.and_true,Bool.true_and,Bool.and_false,Bool.or_true,Bool.or_false];done)|(simp_all;done)|(simp_all <;> intros <;> omega)|grind):p:=h
theorem St.cell{K:Nat->Prop}{G:List Gh}{H:List Ob}{w:World}(a:St K G H w){o off:Nat}{T:TypeId}{f:List Va}{v':Va}(p:H[o]?=some (.cells T f))(h:∀c v,f[off]?=some v->VR K w.heap G c v->VR K w.heap G c v') :
  St K G (H.set o (.cells T (f.set off v'))) w:=by
 have m:=(List.getElem?_eq_some_iff.1 p).1;refine⟨by simpa using a.len,a.kb,a.gbo,a.ijo,fun i g x q k=>?_,a.tb⟩;by_cases e:i=o
 .subst e;rw[getElem?_set_self m]at k;cases k;obtain⟨b,cs,t,u,r⟩:=a.ob i g _ q p;refine⟨b,cs,t,u,?_⟩;cases l:f[off]? with
  |none=>rwa [set_eq_of_length_le (by rw[List.getElem?_eq_none_iff]at l;exact l)]
  |some v =>
   obtain⟨y,d,n⟩:=r.get off _ l;have:=r.set (h _ _ l n) off
   rwa [show cs.set off y=cs by
    apply ext_getElem?;intro j;by_cases s:off=j
    .subst s;rw[getElem?_set_self (List.getElem?_eq_some_iff.1 d).1,d]
    .rw[getElem?_set_ne s]]at this
 .rw[getElem?_set_ne (Ne.symm e)]at k;exact a.ob i g x q k
theorem Does.np{P:Program}{f:FuncId}{args:List Va}{T:TypeId}{vs d:List Va}{X Y:List Ob}{v:Va}
  (D:Does P f args (.cells T (.nil::vs)::X) fun r Z=>r=v/\Z=.cells T (.ptr 0 0::d)::Y)
  (H:Does P f args (.cells T (.ptr 0 0::vs)::X) fun r Z=>r=v/\Z=.cells T (.ptr 0 0::d)::Y) :
  Does P f args (.cells T (.np 0::vs)::X) fun r Z=>r=v/\Z=.cells T (.np 0::d)::Y:=by
 refine⟨D.1,fun K G w vals m u=>?_⟩;have n:∀{e:Ending} {h:World},(∃c r X' j k,e=.returned c/\(r=v/\X'=.cells T (.ptr 0 0::d)::Y)/\Ext (eE (true::kinds X)) K G w j k h/\St j k X' h/\VR j h.heap k c r/\jG (eE (true::kinds X)) X') ->
   ∃c r X' j k,e=.returned c/\(r=v/\X'=.cells T (.np 0::d)::Y)/\Ext (eE (true::kinds X)) K G w j k h/\St j k X' h/\VR j h.heap k c r/\jG (eE (true::kinds X)) X':=by
  rintro e h ⟨c,r,X',j,k,I,⟨J,rfl⟩,L,M,N,O⟩;refine⟨c,r,_,j,k,I,⟨J,rfl⟩,L,?_,N,fun i hi=>?_⟩
  .have:=M.cell (o:=0) (off:=0) (v':=.np 0) rfl (fun c v u Q=>by cases u;simp only[VR]at *;exact .inr Q);simpa using this
  .obtain⟨x,y,R⟩:=O i hi;cases i with
   |zero=>exact⟨_,rfl,rfl⟩
   |succ i=>exact⟨x,by simpa using y,R⟩
 -- the address
 have l:=m.len;have S:∃g,G[0]?=some g:=by
  have:0<G.length:=by rw[l];simp
  exact⟨_,getElem?_eq_getElem this⟩
 obtain⟨g,E⟩:=S;obtain⟨b,cs,U,V,F⟩:=m.ob 0 g _ E rfl;simp only[VRs]at F;obtain⟨z,p,rfl,a,q⟩:=F;have s:∀A,VR K w.heap G z A->St K G (.cells T (A::vs)::X) w:=by
  intro A B;refine⟨by simpa using l,m.kb,m.gbo,m.ijo,fun i g' x t y=>?_,m.tb⟩;cases i with
  |zero =>
   obtain rfl:g=g':=Option.some.inj (E.symm.trans t);cases y;exact⟨b,z::p,U,V,by simp only[VRs];exact⟨z,p,rfl,B,q⟩⟩
  |succ i=>exact m.ob (i+1) g' x t (by simpa using y)
 simp only[VR]at a;rcases a with a|a
 .exact(D.2 K G w vals (s .nil (by simp only[VR];exact a)) u).mono fun e h C=>n C
 .exact(H.2 K G w vals (s (.ptr 0 0) (by simp only[VR];exact a)) u).mono fun e h C=>n C
section
variable {α β:Type}
open Classical in
noncomputable def tD(p:α->Prop)(k:α->Option β):Option β:=if h:∃z,∀x,p x->k x=some z then some h.choose else none
omit [Tabs] in
theorem MU{p:α->Prop}{k:α->Option β}{z:β}(h:tD p k=some z):∀x,p x->k x=some z:=by
 unfold tD at h;split at h
 .rename_i a;cases h;exact a.choose_spec
 .cases h
omit [Tabs] in
theorem MZ{p:α->Prop}{k:α->Option β}{z:β}(d:∃x,p x)(h:∀x,p x->k x=some z):tD p k=some z:=by have a:∃z,∀x,p x->k x=some z:=⟨z,h⟩;unfold tD;rw[dif_pos a];obtain⟨x,b⟩:=d;have c:=a.choose_spec x b;rw[h x b]at c;exact c.symm
end
section
variable {P:Program} {kl:List Bool} {n:Nat} {B:Bs} {ops:Array Oper} {K:ep->List Ob->Prop} {E:ep} {H:List Ob}
theorem Rg.any{o:Oper}{l:List Oper}(g:o.guard=none)(h:fT n o.dst){I:Va->List Ob->Prop}
  (d:∀a w,Rel (cx P kl n B) E H a w->∃c w' v b,(execOp a.eval o).run P w=.ok (.value c) w'/\I v b/\RelV (cx P kl n B) E b c v a w')
  (e:∀v b,I v b->ft P kl n B ops K (ff P kl n ops.toList l ⟨eL E o.dst v,b,True⟩)):Rg P kl n B ops (o::l) E H K:=by
 intro i a w Q j k;refine wpList_plain g fun r f=>?_;obtain⟨c,w',v,b,m,p,q⟩:=d a w j;unfold Oper.wp;rw[m];simp only[Oper.upon];exact f _ _ (Rg.run (e v b p) i _ _ _ (q.put o.dst (zQ h)) k)
theorem BU{a V:Type}(kd:a->Dt)(e:V->List Dt)(l:List (a×V)):(zz kd e l).length=l.length:=by simp[zz]
end
attribute [go_sem] BU
section
variable {α β S:Type}
noncomputable def forM(f:α->S->(S->Option β)->(S->Option β)->Option β):Nat->List α->S->(S->Option β)->Option β
 |0,_,s,k=>k s
 |n+1,r,s,k=>tD (fun j:Nat=>j<r.length) fun j=>match r[j]? with
  |some x=>f x s (fun a=>forM f n (r.eraseIdx j) a k) k
  |none=>none
theorem MQ{z:β}{f:α->S->(S->Option β)->(S->Option β)->Option β}{n:Nat}{r:List α}{s:S}{F:S->Option β}(h:forM f n r s F=some z):∃k,(∀s,k s=some z->F s=some z)/\forM f n r s k=some z:=⟨F,fun _ h=>h,h⟩
theorem MC{z:β}{f:α->S->(S->Option β)->(S->Option β)->Option β}{r:List α}{s:S}{k:S->Option β}(h:forM f r.length r s k=some z)(a:r.length=0):k s=some z:=by rw[a]at h;exact h
theorem MR{z:β}{f:α->S->(S->Option β)->(S->Option β)->Option β}{r:List α}{s:S}{k:S->Option β}(h:forM f r.length r s k=some z){j:Nat}(b:j<r.length) :
  ∃x c,r[j]?=some x/\(∀a,c a=some z->forM f (r.eraseIdx j).length (r.eraseIdx j) a k=some z)/\f x s c k=some z:=by
 obtain⟨n,e⟩:∃n,r.length=n+1:=⟨r.length-1,by omega⟩;rw[e]at h;simp only[forM]at h;have d:=MU h j b;rw[getElem?_eq_getElem b]at d;exact⟨r[j],fun a=>forM f n (r.eraseIdx j) a k,getElem?_eq_getElem b,fun a hs=>by rw[show(r.eraseIdx j).length=n by rw[length_eraseIdx,if_pos b];omega];exact hs,d⟩
def left:List Nat->List Nat->List α->List α
 |b::c,a,x::l=>bif a.contains b then left c a l else x::left c a l
 |_,_,_=>[]
theorem ng:∀(bs:List Nat) (l:List α),l.length=bs.length->left bs [] l=l
 |[],[],_=>rfl
 |b::bs,x::l,h=>by simp only[left,contains_nil,cond_false];rw[ng bs l (by simpa using h)]
 |[],_::_,h=>by simp at h
 |_::_,[],h=>by simp at h
theorem EM{γ:Type}{seen:List Nat}:∀{bs:List Nat} {l:List α} {m:List γ},l.length=bs.length->m.length=bs.length->(left bs seen l).length=(left bs seen m).length
 |[],[],[],_,_=>rfl
 |b::bs,x::l,y::m,h,a=>by
  have c:=EM (seen:=seen) (bs:=bs) (l:=l) (m:=m) (by simpa using h) (by simpa using a);simp only[left];cases seen.contains b <;> simp[c]
 |[],_::_,_,h,_=>by simp at h
 |[],[],_::_,_,h=>by simp at h
 |_::_,[],_,h,_=>by simp at h
 |_::_,_::_,[],_,h=>by simp at h
theorem ni{γ:Type}(g:α->γ)(a:List Nat):∀(c:List Nat) (l:List α),left c a (l.map g)=(left c a l).map g
 |[],_=>by simp[left]
 |_::_,[]=>by simp[left]
 |b::c,x::l=>by
  simp only[map_cons,left,ni g a c l];cases a.contains b <;> rfl
theorem WK{γ:Type}(g:γ->Nat)(a:List Nat):∀(l:List γ),left (l.map g) a l=l.filter fun x=>!a.contains (g x)
 |[]=>rfl
 |x::l=>by
  simp only[map_cons,left,WK g a l,filter_cons];cases a.contains (g x) <;> rfl
structure l9(bs seen:List Nat)(j p st:Nat):Prop where
 hp:bs[p]?=some st
 er:∀{α:Type} (l:List α),l.length=bs.length->j<(left bs seen l).length/\left bs (seen++[st]) l=(left bs seen l).eraseIdx j/\(left bs seen l)[j]?=l[p]?
theorem nf{b:Nat}{a:List Nat}:∀{d:List Nat},b∉d->∀{α:Type} (l:List α),l.length=d.length->left d (a++[b]) l=left d a l
 |[],_,_,l,_=>by cases l <;> rfl
 |c::d,hb,_,[],h=>by simp at h
 |c::d,hb,_,x::l,h=>by
  have f:¬ c=b:=fun e=>hb (by simp[e]);have:(a++[b]).contains c=a.contains c:=by rw[Bool.eq_iff_iff];simp[f]
  simp only[left,this,nf (fun h=>hb (mem_cons_of_mem _ h)) l (by simpa using h)]
theorem Ht{bs a:List Nat}(v:bs.Nodup){j:Nat}(i:j<(left bs a bs).length):∃p st,l9 bs a j p st/\(left bs a bs)[j]?=some st:=by
 induction bs generalizing j with
 |nil=>simp[left]at i
 |cons b bs u =>
  have f:=nodup_cons.1 v;have g:∀{α:Type} (x:α) (l:List α) (m:List Nat),left (b::bs) m (x::l)=bif m.contains b then left bs m l else x::left bs m l:=fun _ _ _=>rfl;have k:∀{α:Type} (l:List α),l.length=bs.length->left bs (a++[b]) l=left bs a l:=fun l d=>nf f.1 l d;cases hs:a.contains b with
  |true =>
   have h:left (b::bs) a (b::bs)=left bs a bs:=by rw[g,hs];rfl
   rw[h]at i;obtain⟨p,st,⟨n,o⟩,q⟩:=u f.2 i;refine⟨p+1,st,⟨by simpa using n,?_⟩,by rw[h];exact q⟩;intro α l d;cases l with
   |nil=>simp at d
   |cons x l =>
    have c:(a++[st]).contains b=true:=by simp at hs|-;exact .inl hs
    obtain⟨r,s,t⟩:=o l (by simpa using d);rw[g,hs,g,c];exact⟨r,s,by simpa using t⟩
  |false =>
   have h:left (b::bs) a (b::bs)=b::left bs a bs:=by rw[g,hs];rfl
   rw[h]at i;cases j with
   |zero =>
    refine⟨0,b,⟨rfl,?_⟩,by rw[h];rfl⟩;intro α l d;cases l with
    |nil=>simp at d
    |cons x l =>
     have c:(a++[b]).contains b=true:=by simp
     rw[g,hs,g,c];exact⟨by simp,by simp only[cond_true,cond_false,eraseIdx_zero,tail_cons];exact k l (by simpa using d),rfl⟩
   |succ j =>
    obtain⟨p,st,⟨n,o⟩,q⟩:=u f.2 (by simpa using i);refine⟨p+1,st,⟨by simpa using n,?_⟩,by rw[h];simpa using q⟩;intro α l d;cases l with
    |nil=>simp at d
    |cons x l =>
     have hb:b≠st:=fun e=>f.1 (e ▸ mem_of_getElem? n);have c:(a++[st]).contains b=false:=by simp at hs|-;exact⟨hs,hb⟩
     obtain⟨r,s,t⟩:=o l (by simpa using d);rw[g,hs,g,c];exact⟨by simpa using r,by simp[s],by simpa using t⟩
end
section
variable {P:Program} {kl:List Bool} {n:Nat} {B:Bs} {Q:Qt} {E:ep} {H:List Ob}
theorem Wp.forM{Z S α:Type}{z:Z}{f:α->S->(S->Option Z)->(S->Option Z)->Option Z}{k:S->Option Z}{l:List α}{bs:List Nat}{c:Code}{j:S}(b:List Nat->S->ep)(d:List Nat->S->List Ob)(hb:l.length=bs.length)
  (p:kH kl E H (b [] j) (d [] j)) (q:Vc.forM f l.length l j k=some z)
  (g:∀(seen:List Nat) (s:S),Vc.forM f (left bs seen l).length (left bs seen l) s k=some z->Wp P kl n B c (zF (fun m o=>∃a i,(left bs a l).length<(left bs seen l).length/\Vc.forM f (left bs a l).length (left bs a l) i k=some z/\kH kl m o (b a i) (d a i)) Q) (b seen s) (d seen s)):Wp P kl n B (.loop c) Q E H:=by
 refine Wp.loop (S:=List Nat×S) (fun t=>b t.1 t.2) (fun t=>d t.1 t.2) (fun t=>Vc.forM f (left bs t.1 l).length (left bs t.1 l) t.2 k=some z) (fun t=>(left bs t.1 l).length) ([],j) p (by simp only[ng bs l hb];exact q) fun t r=>(g t.1 t.2 r).mono fun e m o h=>?_;cases e with
 |normal=>obtain⟨u,i,v,w,x⟩:=h;exact⟨(u,i),w,v,x⟩
 |_=>exact h
end
theorem MRs.left{K:Nat->Prop}{h:Array Obj}{ag:Bool}{seen:List Nat}:∀{a:List MapEntry} {es:List (Dt×List Dt)},MRs K h ag a es->MRs K h ag (a.filter fun e=>!seen.contains e.born) (left (a.map (·.born)) seen es)
 |[],[],_=>by simp[Vc.left,MRs]
 |e::a,p::es,b=>by
  simp only[MRs]at b;have c:=MRs.left (seen:=seen) b.2.2;simp only[map_cons,Vc.left,filter_cons];cases seen.contains e.born
  .simp only[Bool.not_false,if_true,cond_false,MRs];exact⟨b.1,b.2.1,c⟩
  .simpa using c
 |[],_::_,b=>by simp[MRs]at b
 |_::_,[],b=>by simp[MRs]at b
theorem MRs.get{K:Nat->Prop}{h:Array Obj}{ag:Bool}:∀{b:List MapEntry} {es:List (Dt×List Dt)} {p:Nat} {x:Dt×List Dt},MRs K h ag b es->es[p]?=some x->∃e,b[p]?=some e/\KR K h e.key x.1/\iN K h ag e.val x.2
 |[],[],p,x,_,c=>by simp at c
 |e::b,y::es,0,x,a,c=>by
  simp only[MRs]at a;simp at c;subst c;refine⟨e,rfl,a.1,?_⟩;cases ag <;> exact a.2.1
 |e::b,y::es,p+1,x,a,c=>by
  simp only[MRs]at a;simpa using MRs.get a.2.2 (by simpa using c)
 |[],_::_,_,_,a,_=>by simp[MRs]at a
 |_::_,[],_,_,a,_=>by simp[MRs]at a
def w5:Dt->Va
 |.a c=>.agg (c.map .p)
 |.b x=>.p (.b x)
 |.i k x=>.p (.i k x)
 |.s x=>.p (.s x)
 |.l x=>.p (.l x)
 |.r x=>.p (.r x)
theorem KR.va{K:Nat->Prop}{h:Array Obj}{G:List Gh}{v:Value}:∀{d:Dt},KR K h v d->VR K h G v (w5 d)
 |.a f,⟨cs,c,e⟩=>by simp only[w5,VR];exact⟨cs,c,DRs.vrs e⟩
 |.b _,H=>by simpa only[w5,VR,KR]using H
 |.i _ _,H=>by simpa only[w5,VR,KR]using H
 |.s _,H=>by simpa only[w5,VR,KR]using H
 |.l _,H=>by simpa only[w5,VR,KR]using H
 |.r _,H=>by simpa only[w5,VR,KR]using H
attribute [go_sem] w5
theorem se{K:Nat->Prop}{h:Array Obj}{G:List Gh}{b:Bool}{v:Value}{a:List Dt}(e:iN K h b v a):VR K h G v (gW b a):=by
 cases b with
 |true =>
  obtain⟨cs,rfl,c⟩:=e;simp only[gW,cond_true,VR];exact⟨cs,rfl,DRs.vrs c⟩
 |false =>
  obtain⟨d,rfl,c⟩:=e;simp only[gW,cond_false,vE,drop_zero];simpa only[VR]using c
section
variable {K:Nat->Prop} {G:List Gh} {H:List Ob} {w:World}
theorem St.reob(a:St K G H w){o:Nat}{g:Gh}{b:Nat}(c:G[o]?=some g)(hb:g.blk=some b){x:Ob}(d:ObR K w.heap G g x):St K G (H.set o x) w :=
 a.modA c hb rfl (fun _ _=>rfl) d
end
theorem mO{P:Program}(w:World)(r:TypeId){f g c:Nat}{a:List Nat}{b:Array MapEntry}(n:w.heap[f]?=some (.mapIter (some g) c a.toArray c))(o:w.heap[g]?=some (.map b c))
  (d:(!a.toArray.isEmpty&&!b.isEmpty&&b.all (fun e=>decide (e.born≥c)))=false)
  (h:(b.filter fun e=>!a.toArray.contains e.born).filter (fun e=>decide (e.born<c))=b.filter fun e=>!a.contains e.born)
  (i:(b.filter fun e=>!a.toArray.contains e.born).filter (fun e=>decide (e.born≥c))=#[]) :
  ((b.filter fun e=>!a.contains e.born).size=0/\(Instr.next (.pointer (some ⟨f,0,none⟩)) false r).run P w=.ok (.tuple #[.bool false]) w) ∨
  ∃(j:Nat) (p:j<(b.filter fun e=>!a.contains e.born).size) (w1:World),(w1=w∨w1=w.drew) /\
   (Instr.next (.pointer (some ⟨f,0,none⟩)) false r).run P w=.ok (.tuple #[.bool true,(b.filter fun e=>!a.contains e.born)[j].key,(b.filter fun e=>!a.contains e.born)[j].val])
    { w1 with heap:=w1.heap.setIfInBounds f (.mapIter (some g) c (a++[(b.filter fun e=>!a.contains e.born)[j].born]).toArray c) }:=by
 have u:f<w.heap.size:=(Array.getElem?_eq_some_iff.1 n).1;simp only[Instr.next,getObj,Sem.run_bind,Sem.run,n,o,Result.andThen,d,Bool.false_eq_true,if_false,h,i,Array.append_empty];generalize (b.filter fun e=>!a.contains e.born)=L;by_cases s:L.size=0
 .left;have:L=#[]:=Array.eq_empty_of_size_eq_zero s;subst this;refine⟨rfl,?_⟩;simp[choose,Sem.run,Question.forced]
 .right;have q:L.isEmpty=false:=by simp[Array.isEmpty,s]
  simp only[q,Bool.false_eq_true,if_false,Array.empty_append,Array.size_map];have hch:∃(j:Nat) (w1:World),j<L.size/\(w1=w∨w1=w.drew)/\(choose (Question.mapNext L.size)).run P w=.ok j w1:=by
   by_cases t:L.size<=1
   .exact⟨0,w,by omega,.inl rfl,by simp[choose,Sem.run,Question.forced,t]⟩
   .exact⟨_,w.drew,Nat.mod_lt _ (by omega),.inr rfl,by
     simp only[choose,Sem.run,Question.forced,decide_eq_true_eq,t,if_false,Question.cut];rfl⟩
  obtain⟨j,w1,p,k,l⟩:=hch;refine⟨j,p,w1,k,?_⟩;have m:(setObj f (.mapIter (some g) c (a.toArray.push L[j].born) c)).run P w1=.ok () { w1 with heap:=w1.heap.setIfInBounds f (.mapIter (some g) c (a.toArray.push L[j].born) c) }:=by
   have v:w1.heap[f]?=some (.mapIter (some g) c a.toArray c):=by rcases k with rfl|rfl <;> exact n
   simp[setObj,Sem.run,v]
  simp only[l,Array.getElem?_map,Array.getElem?_eq_getElem p,Option.map_some,Sem.run_bind,m,Result.andThen];simp
section
variable {P:Program} {kl:List Bool} {n:Nat} {B:Bs} {ops:Array Oper} {K:ep->List Ob->Prop} {E:ep} {H:List Ob}
theorem Rg.range{o:Oper}{l:List Oper}{t:TypeId}{x:Operand}{i:Nat}{ag:Bool}{es:List (Dt×List Dt)}{kt et:TypeId}(Z:Is o.op (.range t x))(L:Is o.guard none)(hd:fT n o.dst)(hk:opOk true E x)(hx:Is (opnd E x) (.mp i))(ht:Is (zo P t) (.map kt et))(hi:Is (eB H i) (.mp ag es))
  (s:∀(bs:List Nat) (cl:Nat),es.length=bs.length->bs.Nodup->(∀b∈bs,b<cl)->ft P kl n B ops K (ff P kl n ops.toList l ⟨eL E o.dst (.ptr H.length 0),H.set i (.mpb ag es bs cl)++[.it i cl []],True⟩)):Rg P kl n B ops (o::l) E H K:=by
 unfold Is at *;refine Rg.any L hd (I:=fun v W=>v=.ptr H.length 0/\∃bs cl,es.length=bs.length/\bs.Nodup/\(∀b∈bs,b<cl)/\W=H.set i (.mpb ag es bs cl)++[.it i cl []]) ?_ ?_;rotate_left
 .rintro v W ⟨rfl,bs,cl,h1,h2,h3,rfl⟩;exact s bs cl h1 h2 h3
 intro a w hR;obtain⟨Kk,G,hX,J,X,M,hn,N⟩:=hR;have k:=zD X rfl x hk;rw[hx]at k;simp only[VR]at k;obtain⟨g,b,d,f,ha⟩:=k;have O:=zy hi (by simp);obtain⟨u,p,h,c,z,A,C,D⟩:=J.ob i g _ d O;obtain rfl:p=b:=by rw[f]at z;exact(Option.some.inj z).symm
 obtain⟨ti,Q,R⟩:=zL ht (by simp);have hu:=BJ Q R;have j:=(MapKept.stamped_iff h c).1 D;have S:i<G.length:=(List.getElem?_eq_some_iff.1 d).1;have T:=J.reob d f (x:=.mpb ag es (h.toList.map (·.born)) c) ⟨u,p,h,f,A,C,D,rfl⟩;have U:=T.push (o:=.mapIter (some p) c #[] c) (x:=.it i c []) (sv:=undef) ⟨w.heap.size,p,g,rfl,by rw[getElem?_append_left S];exact d,f,heap_alloc_new w _⟩;have hM:=Mn.alloc J.kb (.mapIter (some p) c #[] c);have hG:∀(o:Nat) (g:Gh),G[o]?=some g->(G++[⟨some w.heap.size,undef,[]⟩])[o]?=some g:=fun o g L=>Mg.push G _ o g rfl L;refine⟨.pointer (some ⟨w.heap.size,0,none⟩),w.alloc (.mapIter (some p) c #[] c),.ptr H.length 0,H.set i (.mpb ag es (h.toList.map (·.born)) c)++[.it i c []],?_,⟨rfl,_,c,by rw[length_map];exact C.length.symm,j.2.1,by simpa using j.1,rfl⟩,?_⟩
 .have F:(Instr.range t (a.eval x)).run P w=.ok (.pointer (some ⟨w.heap.size,0,none⟩)) (w.alloc (.mapIter (some p) c #[] c)):=by
   rw[ha];simp[Instr.range,run_underlying hu,MapKept.run_getObj_map A,Result.andThen]
  obtain⟨dst,op,ty,pos,af,gd⟩:=o;cases Z;exact rD F
 .refine⟨Kk,G++[⟨some w.heap.size,undef,[]⟩],hX.trans (Ext.push _ _ undef),U,fun m=>VR.grow hM hG _ _ (X m),M,hn,fun q hq=>?_,?_⟩
  .obtain⟨y,Y,V⟩:=N q hq;have r:=(List.getElem?_eq_some_iff.1 Y).1;by_cases e:q=i
   .subst e;exact⟨_,by rw[getElem?_append_left (by simpa using r)];exact getElem?_set_self r,rfl⟩
   .exact⟨y,by rw[getElem?_append_left (by simpa using r),getElem?_set_ne (Ne.symm e)];exact Y,V⟩
  .simp only[VR];refine⟨⟨some w.heap.size,undef,[]⟩,w.heap.size,?_,rfl,rfl⟩;rw[<-J.len,getElem?_append_right (Nat.le_refl _)];simp
theorem Rg.next{o:Oper}{l:List Oper}{x:Operand}{q i cl:Nat}{ag:Bool}{es:List (Dt×List Dt)}{bs seen:List Nat}(ho:Is o.op (.next x false))(hg:Is o.guard none)(hd:fT n o.dst)(hk:opOk true E x)(hx:Is (opnd E x) (.ptr q 0))(hq:Is (eB H q) (.it i cl seen))(hi:Is (eB H i) (.mpb ag es bs cl))
  (T:eE kl q=false) (hb1:es.length=bs.length) (hb2:bs.Nodup) (F:∀b∈bs,b<cl)
  (he:(left bs seen bs).length=0->ft P kl n B ops K (ff P kl n ops.toList l ⟨eL E o.dst (.tup [.p (.b false)]),H,True⟩))
  (hs:∀(j p f:Nat),l9 bs seen j p f->ft P kl n B ops K (ff P kl n ops.toList l ⟨eL E o.dst (.tup [.p (.b true),.top,.top]),H.set q (.it i cl (seen++[f])),True⟩)):Rg P kl n B ops (o::l) E H K:=by
 unfold Is at *;refine Rg.any hg hd (I:=fun v H'=>((left bs seen bs).length=0/\v=.tup [.p (.b false)]/\H'=H)∨∃j p f,l9 bs seen j p f/\v=.tup [.p (.b true),.top,.top]/\H'=H.set q (.it i cl (seen++[f]))) ?_ ?_;rotate_left
 .rintro v H' (⟨h1,rfl,rfl⟩|⟨j,p,f,h1,rfl,rfl⟩)
  .exact he h1
  .exact hs j p f h1
 intro a w hR;obtain⟨Kk,G,hX,U,hE,V,hn,W⟩:=hR;have J:=zD hE rfl x hk;rw[hx]at J;simp only[VR]at J;obtain⟨gq,bq,u,k,ha⟩:=J;have X:=zy hq (by simp);have L:=zy hi (by simp);obtain⟨g,bm,gm,e1,e2,e3,e4⟩:=U.ob q gq _ u X;obtain rfl:g=bq:=by rw[k]at e1;exact(Option.some.inj e1).symm
 obtain⟨hlim,Y,d,Z,hbm,hmr,hst,M⟩:=U.ob i gm _ e2 L;obtain rfl:Y=bm:=by rw[e3]at Z;exact(Option.some.inj Z).symm
 subst M;have hlen:es.length=d.toList.length:=by simpa using hb1
 have A:(!seen.toArray.isEmpty&&!d.isEmpty&&d.all (fun e=>decide (e.born≥cl)))=false:=by
  cases hme:d.isEmpty with
  |true=>simp
  |false =>
   have:d.all (fun e=>decide (e.born≥cl))=false:=by
    rw[Array.all_eq_false'];have hne:d.toList≠[]:=by intro N;have:d=#[]:=Array.toList_eq_nil_iff.1 N;subst this;simp at hme
    obtain⟨N,r0,r⟩:=exists_cons_of_ne_nil hne;refine⟨N,by rw[<-Array.mem_toList_iff,r];simp,?_⟩;have:=F N.born (by simp[r]);simp;omega
   simp[this]
 have s:∀y:Nat,seen.toArray.contains y=seen.contains y:=by intro y;simp
 have hold:(d.filter fun e=>!seen.toArray.contains e.born).filter (fun e=>decide (e.born<cl))=d.filter fun e=>!seen.contains e.born:=by
  apply Array.toList_inj.1;simp only[Array.toList_filter,s];rw[filter_eq_self];intro e he;have:=(mem_filter.1 he).1;simpa using F e.born (by simp;exact⟨e,by simpa using this,rfl⟩)
 have hnew:(d.filter fun e=>!seen.toArray.contains e.born).filter (fun e=>decide (e.born≥cl))=#[]:=by
  apply Array.toList_inj.1;simp only[Array.toList_filter,s];rw[filter_eq_nil_iff.2];intro e he;have:=(mem_filter.1 he).1;have:=F e.born (by simp;exact⟨e,by simpa using this,rfl⟩);simp;omega
 have hlf:(left (d.toList.map (·.born)) seen (d.toList.map (·.born))).length=(d.filter fun e=>!seen.contains e.born).size:=by rw[EM (m:=d.toList) (by simp) (by simp),WK,<-Array.toList_filter,Array.length_toList]
 have hrr:=mO (P:=P) w o.type e4 hbm A hold hnew;have N:∀{c:Value} {w':World},(Instr.next (a.eval x) false o.type).run P w=.ok c w'->(execOp a.eval o).run P w=.ok (.value c) w':=by intro c w' R;obtain⟨dst,op,ty,pos,af,gd⟩:=o;cases ho;exact rD R
 rw[<-ha]at hrr;rcases hrr with⟨h0,R⟩|⟨j,hj,C,t,R⟩
 .refine⟨_,_,.tup [.p (.b false)],H,N R,.inl ⟨by rw[hlf];exact h0,rfl,rfl⟩,Kk,G,hX,U,hE,V,hn,W,?_⟩;simp only[VR,VRs,DR];exact⟨[.bool false],rfl,_,_,rfl,rfl,rfl⟩
 .obtain⟨p,f,hok,D⟩:=Ht hb2 (by rw[hlf];exact hj)
  have hstb:f=(d.filter fun e=>!seen.contains e.born)[j].born:=by
   rw[ni (fun e:MapEntry=>e.born),WK,<-Array.toList_filter,getElem?_map,Array.getElem?_toList,Array.getElem?_eq_getElem hj]at D;simpa using D.symm
  rw[<-hstb]at R;have hqb:g<w.heap.size:=(Array.getElem?_eq_some_iff.1 e4).1;have O:C.heap.size=w.heap.size:=by rcases t with rfl|rfl <;> rfl
  have hhp:C.heap=w.heap:=by rcases t with rfl|rfl <;> rfl
  have Q:∀y,y≠g->({ C with heap:=C.heap.setIfInBounds g (.mapIter (some Y) cl (seen++[f]).toArray cl) }:World).heap[y]?=w.heap[y]?:=fun y S=>by simp[Ne.symm S,hhp]
  have hqi:q≠i:=fun e=>by subst e;rw[X]at L;cases L
  have hMn:Mn Kk Kk w.heap ({ C with heap:=C.heap.setIfInBounds g (.mapIter (some Y) cl (seen++[f]).toArray cl) }:World).heap:=⟨fun _ h=>h,fun y S=>Q y fun e=>(U.gb q gq _ u k).2 (e ▸ S)⟩;have hS1:=U.modA (x:=.it i cl (seen++[f])) u k (w':={ C with heap:=C.heap.setIfInBounds g (.mapIter (some Y) cl (seen++[f]).toArray cl) }) (by simp[O]) Q ⟨g,Y,gm,k,e2,e3,by simp[O,hqb]⟩;refine⟨_,_,.tup [.p (.b true),.top,.top],H.set q (.it i cl (seen++[f])),N R,.inr ⟨j,p,f,hok,rfl,rfl⟩,Kk,G,hX.trans (Ext.modA _ u k ?_ ?_ ?_ (by simp[O]) Q),hS1,fun m=>VR.grow hMn (fun _ _ h=>h) _ _ (hE m),V,hn,fun y S=>?_,?_⟩
  .rcases t with rfl|rfl <;> rfl
  .rcases t with rfl|rfl
   .exact⟨rfl,fun _=>Nat.le_refl _⟩
   .exact⟨rfl,fun _=>Nat.le_succ _⟩
  .rcases t with rfl|rfl <;> rfl
  .have hyq:y≠q:=fun e=>by subst e;rw[show eE kl y=true from S]at T;cases T
   obtain⟨z,hz,hkz⟩:=W y S;exact⟨z,by rw[getElem?_set_ne (Ne.symm hyq)];exact hz,hkz⟩
  .simp only[VR,VRs,DR];exact⟨[.bool true,_,_],rfl,_,_,rfl,rfl,_,_,rfl,trivial,_,_,rfl,trivial,rfl⟩
theorem Rg.entry{o:Oper}{l:List Oper}{x:Operand}{q i cl p st:Nat}{ag:Bool}{es:List (Dt×List Dt)}{bs seen:List Nat}{d:Dt}{row:List Dt}(S:Is o.op (.entry x))(T:Is o.guard none)(U:fT n o.dst)(V:opOk true E x)(W:Is (opnd E x) (.ptr q 0))(X:Is (eB H q) (.it i cl (seen++[st])))(hi:Is (eB H i) (.mpb ag es bs cl))
  (k:bs.Nodup) (M:bs[p]?=some st) (he:es[p]?=some (d,row))
  (f:ft P kl n B ops K (ff P kl n ops.toList l ⟨eL E o.dst (.tup [w5 d,gW ag row]),H,True⟩)):Rg P kl n B ops (o::l) E H K:=by
 unfold Is at *;refine Rg.any T U (I:=fun v N=>v=.tup [w5 d,gW ag row]/\N=H) ?_ (by rintro v N ⟨rfl,rfl⟩;exact f);intro a w Y;obtain⟨Kk,G,Z,m,O,r,hn,s⟩:=Y;have c:=zD O rfl x V;rw[W]at c;simp only[VR]at c;obtain⟨gq,bq,t,u,ha⟩:=c;have y:=zy X (by simp);have z:=zy hi (by simp);obtain⟨A,bm,gm,Q,e2,e3,e4⟩:=m.ob q gq _ t y;obtain rfl:A=bq:=by rw[u]at Q;exact(Option.some.inj Q).symm
 obtain⟨R,b',g,h,C,D,hst,b⟩:=m.ob i gm _ e2 z;obtain rfl:b'=bm:=by rw[e3]at h;exact(Option.some.inj h).symm
 obtain⟨e,j,F,J⟩:=D.get he;have L:e.born=st:=by
  rw[<-b,getElem?_map,j]at M;simpa using M
 have hf:g.find? (·.born == st)=some e:=by rw[<-Array.find?_toList,<-L];exact find_born e g.toList (by rw[b];exact k) (mem_of_getElem? j)
 have hr:(Instr.entry (a.eval x)).run P w=.ok (.tuple #[e.key,e.val]) w:=by
  rw[ha];have:(seen++[st]).toArray.back?=some st:=by simp
  simp only[Instr.entry,getObj,Sem.run_bind,Sem.run,e4,C,Result.andThen,this,bne_self_eq_false,Bool.false_eq_true,if_false,hf];rfl
 refine⟨.tuple #[e.key,e.val],w,_,H,?_,⟨rfl,rfl⟩,Kk,G,Z,m,O,r,hn,s,?_⟩
 .obtain⟨dst,op,ty,pos,af,gd⟩:=o;cases S;exact rD hr
 .simp only[VR,VRs];exact⟨[e.key,e.val],rfl,_,_,rfl,F.va,_,_,rfl,se J,rfl⟩
end
section
variable {P:Program} {kl:List Bool} {n:Nat} {B:Bs} {Q:Qt} {E:ep} {H:List Ob}
theorem dv{c:Code}(i q:Nat){ag:Bool}{es:List (Dt×List Dt)}{bs seen:List Nat}{cl:Nat}(hi:Is (eB H i) (.mpb ag es bs cl))(A:Is (eB H q) (.it i cl seen))(s:eE kl q=false)
  (C:Wp P kl n B c Q E ((H.set i (.mp ag es)).set q .gone)):Wp P kl n B c Q E H:=by
 unfold Is at *;intro D a w F;obtain⟨K,G,I,h,J,L,M,r6⟩:=F;have j:=zy hi (by simp);have k:=zy A (by simp);obtain⟨V,l,m⟩:=h.ghost j;obtain⟨d,b,o,t,N,O,R,W⟩:=m;obtain⟨X,p,f⟩:=h.ghost k;obtain⟨Y,Z,gm,S,q2⟩:=f;have T:=h.reob l t (x:=.mp ag es) ⟨d,b,o,cl,t,N,O,R⟩;have U:=T.reob p S (x:=.gone) trivial;refine C D a w ⟨K,G,I,U,J,L,M,fun y u=>?_⟩;have g:y≠q:=fun e=>by subst e;rw[show eE kl y=true from u]at s;cases s
 obtain⟨z,v,r⟩:=r6 y u;by_cases e:y=i
 .subst e;exact⟨_,by rw[getElem?_set_ne (Ne.symm g)];exact getElem?_set_self (List.getElem?_eq_some_iff.1 v).1,rfl⟩
 .exact⟨z,by rw[getElem?_set_ne (Ne.symm g),getElem?_set_ne (Ne.symm e)];exact v,r⟩
end
section
variable {α β S:Type}
theorem xf{z:β}{f:α->S->(S->Option β)->(S->Option β)->Option β}{k:S->Option β}{c:S}{bs seen:List Nat}{l:List α}{j p a:Nat}(b:l9 bs seen j p a)(hb:l.length=bs.length)
  (h:forM f ((left bs seen l).eraseIdx j).length ((left bs seen l).eraseIdx j) c k=some z):(left bs (seen++[a]) l).length<(left bs seen l).length/\forM f (left bs (seen++[a]) l).length (left bs (seen++[a]) l) c k=some z:=by
 obtain⟨d,e,_⟩:=b.er l hb;rw[e];exact⟨by rw[length_eraseIdx,if_pos d];omega,h⟩
theorem MA{a V:Type}{kd:a->Dt}{e:V->List Dt}{l:List (a×V)}{p:Nat}{x:a×V}(h:l[p]?=some x):(zz kd e l)[p]?=some (kd x.1,e x.2):=by simp[zz,h]
theorem Mo{a V:Type}{kd:a->Dt}{e:V->List Dt}{l:List (a×V)}{bs:List Nat}(h:(zz kd e l).length=bs.length):l.length=bs.length:=by rw[<-h,BU]
end
section
variable {P:Program} {kl:List Bool} {n:Nat} {B:Bs} {ops:Array Oper} {K:ep->List Ob->Prop} {E:ep} {H:List Ob}
theorem dI{o:Oper}{l:List Oper}{t u:TypeId}{x:Operand}{rows:List (List Dt)}{e:TypeId}{esz eb:Nat}{ez:List Value}(F:Is o.op (.binOp .eql t x (.const (.slice none 0 0)) u))(J:Is o.guard none)(L:fT n o.dst)(M:opOk true E x)(N:Is (opnd E x) (.p (.l rows)))(O:Is (zo P t) (.slice e esz eb ez))
  (g:∀b:Bool,(b=true->rows=[])->ft P kl n B ops K (ff P kl n ops.toList l ⟨eL E o.dst (.p (.b b)),H,True⟩)):Rg P kl n B ops (o::l) E H K:=by
 unfold Is at *;refine Rg.any J L (I:=fun v C=>C=H/\∃b:Bool,(b=true->rows=[])/\v=.p (.b b)) ?_ (by rintro v C ⟨rfl,b,i,rfl⟩;exact g b i);intro a w Q;obtain⟨Kk,G,R,S,D,k,U,q⟩:=Q;have f:=zD D rfl x M;rw[N]at f;simp only[VR,DR]at f;obtain⟨ti,r,s⟩:=zL O (by simp);obtain⟨V,_⟩:=je r s;have y:∃d m c,a.eval x=.slice d m c/\(d.isNone=true->rows=[]):=by
  rcases f with⟨⟨d,i⟩,W⟩|⟨b,X,c,cs,T,fr,sz,vs,i,_⟩
  .exact⟨d,0,0,i,fun _=>W⟩
  .exact⟨_,_,_,i,fun h=>by simp at h⟩
 obtain⟨d,m,c,z,j⟩:=y;refine⟨.bool d.isNone,w,_,H,?_,⟨rfl,d.isNone,j,rfl⟩,Kk,G,R,S,D,k,U,q,by simp only[VR,DR]⟩;have Y:(binOp .eql t (.slice d m c) (.slice none 0 0)).run P w=.ok (.bool d.isNone) w:=Lib.run_eql_slice_nil w t e d m c 0 0 V;obtain⟨Z,op,ty,pos,af,gd⟩:=o;cases F;have A:=zpi (P:=P) (w:=w) .eql t x (.const (.slice none 0 0)) (.slice d m c) (.slice none 0 0) (by simp) (by simp);have:(do eqGuard .eql t x (.const (.slice none 0 0)) (a.eval x) (a.eval (.const (.slice none 0 0)));binOp .eql t (a.eval x) (a.eval (.const (.slice none 0 0))):Sem Value).run P w=.ok (.bool d.isNone) w:=by
  rw[z];show(do eqGuard .eql t x (.const (.slice none 0 0)) (.slice d m c) (.slice none 0 0);binOp .eql t (.slice d m c) (.slice none 0 0):Sem Value).run P w=_;simp only[Sem.run_bind,A,Result.andThen_ok,Y]
 exact rD this
theorem Rg.clear{o:Oper}{l:List Oper}{c:Call}{t:TypeId}{x:Operand}{i sz a m:Nat}{T:TypeId}{rows:List (List Dt)}{e:TypeId}{eb:Nat}{ez:List Value}{z:List Dt}(ho:Is o.op (.call c))(hc:Is c.callee (.builtin .clear))(hca:Is c.args.toList [x])(hct:Is c.argTypes.toList [t])(hg:Is o.guard none)(hd:fT n o.dst)(hk:opOk true E x)
  (hx:Is (opnd E x) (.vw i sz a m)) (ht:Is (zo P t) (.slice e sz eb ez)) {fx:Bool} (hi:Is (rC H i) (some (T,sz,rows,fx))) (hz:Is (fb (ez.map cv)) (some z)) (hzk:oG ez) (U:ez.length=sz) (hs0:0<sz)
  (V:ft P kl n B ops K (ff P kl n ops.toList l ⟨eL E o.dst .top,H.set i (vf fx T sz (rows.take a++List.replicate m z++rows.drop (a+m))),True⟩)):Rg P kl n B ops (o::l) E H K:=by
 unfold Is at *;refine Rg.any hg hd (I:=fun v W=>v=.top/\W=H.set i (vf fx T sz (rows.take a++List.replicate m z++rows.drop (a+m)))) ?_ (by rintro v W ⟨rfl,rfl⟩;exact V);intro ac w hR;obtain⟨Kk,G,hX,hS,hE,X,hn,Y⟩:=hR;have M:=zD hE rfl x hk;rw[hx]at M;simp only[VR]at M;obtain⟨g,ad,N,cap,A,Z,hle,ad',cap',hax,hmc,hcc,hpos⟩:=M;obtain⟨ti,ht',hk'⟩:=zL ht (by simp);obtain⟨hu,⟨inf,hi1,hi2,hi3⟩,C⟩:=je ht' hk';have D:=WE hi;obtain⟨hlim,xs,hxs,hh⟩:=hS.bufOb hi A;have hzi:∃L,inf.zero=some L/\L.cells.toList=ez:=by unfold wW at C;rw[hi1]at C;simp at C;exact C
 obtain⟨L,hzv,O⟩:=hzi;have hrl:rows.length=N:=by
  rcases hh with⟨⟨a0,Q⟩,rfl,_⟩|⟨b,cp,d,fr,Q,_⟩
  .rw[Z]at Q;cases Q;rfl
  .rw[Z]at Q;cases Q;rfl
 have F:∀(w':World),(Builtin.clear_ #[t] o.type #[ac.eval x]).run P w=.ok (.tuple #[]) w'->RelV (cx P kl n B) E (H.set i (vf fx T sz (rows.take a++List.replicate m z++rows.drop (a+m)))) (.tuple #[]) .top ac w'->∃c' w' v W,(execOp ac.eval o).run P w=.ok (.value c') w'/\(v=.top/\W=H.set i (vf fx T sz (rows.take a++List.replicate m z++rows.drop (a+m))))/\RelV (cx P kl n B) E W c' v ac w':=by
  intro w' hr hRV;refine⟨_,w',_,_,?_,⟨rfl,rfl⟩,hRV⟩;obtain⟨callee,args,f⟩:=c;obtain⟨dst,op,ty,pos,af,gd⟩:=o;cases ho;simp only at hc hca hct hr;subst hc;have ha:args=#[x]:=by cases args;simp_all
  have hat:f=#[t]:=by cases f;simp_all
  subst ha;subst hat;simp[execOp,resolve,invoke,builtin,hr]
 rcases Nat.eq_zero_or_pos m with rfl|hm
 .have R:rows.take a++List.replicate 0 z++rows.drop (a+0)=rows:=by simp
  rw[R]at F|-;have hset:H.set i (vf fx T sz rows)=H:=by
   apply ext_getElem?;intro j;by_cases e:j=i
   .subst e;rw[getElem?_set_self (List.getElem?_eq_some_iff.1 D).1,D]
   .rw[getElem?_set_ne (Ne.symm e)]
  rw[hset]at F|-;refine F w ?_ ⟨Kk,G,hX,hS,hE,X,hn,Y,by simp only[VR]⟩;rw[hax];cases ad' <;> simp[Builtin.clear_,run_underlying hu]
 .obtain⟨b,hgb,had,had'⟩:=hpos (by omega);rcases hh with⟨_,_,h0⟩|⟨u,cp,d,fr,Q,S,h3,h4,h5,h6,h7,h8⟩
  .rw[hgb]at h0;cases h0
  obtain rfl:u=b:=by rw[hgb]at S;exact(Option.some.inj S).symm
  have hzsz:L.cells.size=sz:=by rw[<-U,<-O];simp
  have r:(Builtin.zeroCells L.cells m).toList=(List.replicate m ez).flatten:=by
   show(madeCells L.cells (m*L.cells.size)).toList=_;rw[hzsz,MX (by rw[O];exact U) hs0,O]
  have hzd:DRs Kk w.heap ez z:=oE (xC (G:=G) hzk) hz;have hzl':z.length=sz:=by have:=hzd.length;omega
  have k:=DRss.replicate hzd m;rw[hzl']at k;have J:((List.replicate m ez).flatten).length=m*sz:=by have:=k.length;simpa using this
  have hA:a*sz+m*sz<=rows.length*sz:=by rw[<-Nat.add_mul];exact Nat.mul_le_mul_right _ (by omega)
  have hC:rows.length*sz<=d.size:=Nat.le_trans (Nat.mul_le_mul_right _ h5) h7;have hst:=U1 (P:=P) u (a*sz) T fr (List.replicate m ez).flatten 0 d w h3 h4 (by omega) k.ones;simp only[Nat.add_zero]at hst;have hxl:xs=d.toList.take (rows.length*sz):=h8.symm;have hcl:(fh d.toList (a*sz) (List.replicate m ez).flatten).length=d.size:=by rw[Lx _ _ _ (by rw[J];simpa using (by omega:a*sz+m*sz<=d.size))];simp
  have p:(rows.take a++List.replicate m z++rows.drop (a+m)).length=rows.length:=by simp;omega
  refine F (w.setRow u (fh d.toList (a*sz) (List.replicate m ez).flatten).toArray) ?_ ?_
  .rw[hax,had'];have hm0:m≠0:=by omega
   have hzr:(zeroValue e).run P w=.ok L w:=by simp[zeroValue,typeInfo,hi1,hzv]
   obtain⟨m',rfl⟩:∃m',m=m'+1:=⟨m-1,by omega⟩;simp[Builtin.clear_,run_underlying hu,hzr,r,hst]
  .have s:∀y,y≠u->(w.setRow u (fh d.toList (a*sz) (List.replicate m ez).flatten).toArray).heap[y]?=w.heap[y]?:=fun y hy=>setRow_other w u y _ hy;have hMn:Mn Kk Kk w.heap (w.setRow u (fh d.toList (a*sz) (List.replicate m ez).flatten).toArray).heap:=⟨fun _ h=>h,fun y hy=>s y fun e=>(hS.gb i g u A S).2 (e ▸ hy)⟩;refine⟨Kk,G,hX.trans (Ext.modA _ A S rfl ⟨rfl,fun _=>Nat.le_refl _⟩ rfl (setRow_size _ _ _) s),hS.modA A S (setRow_size _ _ _) s (ln ▸ ⟨by rw[p];exact hlim,xs.take (a*sz)++(List.replicate m ez).flatten++xs.drop ((a+m)*sz),?_,.inr ⟨u,cp,_,fr,by rw[p];exact Q,S,setRow_heap w u d _ T fr h3,?_,by rw[p];exact h5,h6,?_,?_⟩⟩),fun q=>VR.grow hMn (fun _ _ h=>h) _ _ (hE q),X,hn,fun y hy=>?_,by simp only[VR]⟩
   .exact DRss.mono hMn _ _ _ (((DRss.take hxs a).append k).append (VZ hxs))
   .simp only[size_toArray,hcl];exact h4
   .simp only[size_toArray,hcl];exact h7
   .rw[p,tj _ _ _ (by rw[J];simpa using (by omega:a*sz+m*sz<=d.size)),J,hxl];have e1:((d.toList.take (a*sz)++(List.replicate m ez).flatten)).length=a*sz+m*sz:=by rw[length_append,J,length_take];simp;omega
    show(d.toList.take (a*sz)++(List.replicate m ez).flatten++d.toList.drop (a*sz+m*sz)).take (rows.length*sz)=_;rw[take_append,take_of_length_le (by omega),e1,take_take,Nat.min_eq_left (by omega),Nat.add_mul,drop_take]
   .obtain⟨q,hq,hkq⟩:=Y y hy;by_cases hyi:y=i
    .subst hyi;rw[D]at hq;cases hq;exact⟨_,getElem?_set_self (List.getElem?_eq_some_iff.1 D).1,by cases fx <;> first|rfl|exact hkq⟩
    .exact⟨q,by rw[getElem?_set_ne (Ne.symm hyi)];exact hq,hkq⟩
end
def sortS(l:List (List UInt8)):List (List UInt8):=l.mergeSort fun x y=>decide (x<=y)
theorem Zn(l:List (List UInt8)):(sortS l).length=l.length:=by unfold sortS;simp
section
variable {P:Program} {kl:List Bool} {n:Nat} {B:Bs} {Q:Qt} {E:ep} {H:List Ob}
theorem dJ{c:Code}(k o:Nat){T:TypeId}{p:Nat}{d:List (List Dt)}(v:Is (eM E k) (.buf o)){fx:Bool}(x:Is (rC H o) (some (T,p,d,fx)))(y:Wp P kl n B c Q ((k,.vw o p 0 d.length)::E) H):Wp P kl n B c Q E H:=by
 unfold Is at *;intro z a w A;obtain⟨K,G,C,q,r,D,F,r6⟩:=A;refine y z a w ⟨K,G,C,q,fun m=>?_,D,F,r6⟩;simp only[eM];split
 .rename_i e;subst e;have i:=r k;rw[v]at i;simp only[VR]at i|-;obtain⟨g,j,l,S,U,s,I⟩:=i;obtain⟨t,V,J,L⟩:=q.bufOb x j;rw[l];rcases L with⟨⟨u,f⟩,rfl,M⟩|⟨b,h,N,W,f,O,M,X,R,Y,Z,h8⟩
  .exact⟨g,u,0,0,j,f,by simp,u,0,f,by simp,by simp,by simp⟩
  .exact⟨g,_,_,h,j,f,by simp,_,h,f,R,by simp,fun _=>⟨b,O,rfl,by simp⟩⟩
 .exact r m
end
section
variable {P:Program} {kl:List Bool} {n:Nat} {B:Bs} {Q:Qt} {E:ep} {H:List Ob}
theorem Wp.reob{c:Code}(o:Nat){x:Ob}(k:eE kl o=false)(p:∀K G (w:World) g,St K G H w->G[o]?=some g->ObR K w.heap G g x)(l:o<H.length)(q:Wp P kl n B c Q E (H.set o x)):Wp P kl n B c Q E H:=by
 intro r a w s;obtain⟨K,G,t,b,u,v,A,r6⟩:=s;have C:o<G.length:=by rw[b.len];exact l
 have f:St K G (H.set o x) w:=by
  refine⟨by simp[b.len],b.kb,b.gbo,b.ijo,fun i g y m d=>?_,b.tb⟩;by_cases e:i=o
  .subst e;rw[getElem?_set_self l]at d;cases d;exact p K G w g b m
  .rw[getElem?_set_ne (Ne.symm e)]at d;exact b.ob i g y m d
 refine q r a w ⟨K,G,t,f,u,v,A,fun y d=>?_⟩;have h:y≠o:=fun e=>by subst e;rw[show eE kl y=true from d]at k;cases k
 obtain⟨z,D,j⟩:=r6 y d;exact⟨z,by rw[getElem?_set_ne (Ne.symm h)];exact D,j⟩
theorem wo{K:Nat->Prop}{h:Array Obj}{m:Option Nat}{y c:Value}{T:TypeId}{k n':Nat}{d:List (List Dt)}{z:Option Addr}{N g:Nat}(hb:bufR K h m y T k d)(o:y=.slice z N g)(E:Vo c m z N g k 0 n') :
  ∃A,bufR K h A c T k (d.take n')/\(∀b,A=some b->m=some b)/\∃a n q,c=.slice a n q:=by
 obtain⟨F,p,f,rfl,r,G,i⟩:=E;obtain⟨B,H,s,I⟩:=hb;have e:(d.take n').length<=eC:=by rw[length_take];omega
 rcases Nat.eq_zero_or_pos f with rfl|J
 .obtain rfl:n'=0:=by omega
  exact⟨none,⟨e,[],by simp[DRss],.inl ⟨⟨p,rfl⟩,by simp,rfl⟩⟩,fun b hb=>by(cases hb),_,_,_,rfl⟩
 .obtain⟨b,j,L,t⟩:=i J;rcases I with⟨_,_,l⟩|⟨u,C,v,M,D,w,l,O,U,V,P,Q⟩
  .rw[j]at l;cases l
  .rw[o]at D;injection D with W R S;subst R;subst S;obtain rfl:u=b:=by rw[j]at w;exact(Option.some.inj w).symm
   have x:(d.take n').length=n':=by rw[length_take];omega
   refine⟨some u,⟨e,H.take ((d.take n').length*k),V0 s,.inr ⟨u,f,v,M,by rw[t,x,Nat.zero_mul],rfl,l,O,by rw[x];exact r,by omega,Nat.le_trans (Nat.mul_le_mul_right _ (by omega)) P,?_⟩⟩,fun b hb=>by rw[<-hb];exact w,_,_,_,rfl⟩;rw[<-Q,take_take,Nat.min_eq_left (Nat.mul_le_mul_right _ (by rw[x];omega))]
theorem ea{c:Code}(k o:Nat){T:TypeId}{sz J:Nat}{rows:List (List Dt)}(L:Is (eM E k) (.vw o sz 0 J))(O:Is (eB H o) (.buf T sz rows))(f:eE kl o=false)(R:Wp P kl n B c Q ((k,.buf o)::fX (· != o) E) ((fG (· != o) H).set o (.buf T sz (rows.take J)))):Wp P kl n B c Q E H:=by
 have q:=zy O (by simp);intro S a w U;obtain⟨K,G,V,r,M,W,X,s⟩:=U;have t:=M k;unfold Is at L;rw[L]at t;simp only[VR]at t;obtain⟨g,ad,N,Y,i,u,Z⟩:=t;have v:o<G.length:=(List.getElem?_eq_some_iff.1 i).1;obtain⟨bn,x,y,z⟩:=wo (r.ob o g _ i q) u Z;have hM:Mn K K w.heap w.heap:=⟨fun _ h=>h,fun _ _=>rfl⟩;let p:Gh:=⟨bn,a.tmps.getD k undef,[]⟩;have A:Mg (· != o) G (G.set o p):=fun j g' l C=>by rw[getElem?_set_ne (by simpa using Ne.symm (by simpa using l))];exact C
 have d:∀b,own p b->own g b:=fun b hb=>by
  rcases hb with hb|⟨_,hb,_⟩
  .exact .inl (y b hb)
  .cases hb
 refine R S a w ⟨K,G.set o p,V.trans (Ext.modB i f rfl ⟨rfl,fun _=>Nat.le_refl _⟩ rfl (Nat.le_refl _) (fun _ _ _=>rfl) fun b hb=>.inl (d b hb)),?_,fun m=>?_,W,X,fun j l=>?_⟩
 .rw[oI];exact r.modB i (Nat.le_refl _) (fun _ _ _=>rfl) (fun b hb=>⟨(r.gbo o g b i (d b hb)).1,.inl (d b hb)⟩) (show bufR _ _ _ _ _ _ _ from x)
 .by_cases e:m=k
  .subst e;rw[show eM ((m,Va.buf o)::fX (· != o) E) m=.buf o from by simp[eM]];simp only[VR];exact⟨p,getElem?_set_self v,rfl,z⟩
  .rw[show eM ((k,Va.buf o)::fX (· != o) E) m=eM (fX (· != o) E) m from by simp[eM,Ne.symm e],rG];exact VR.prune hM A _ _ (M m)
 .obtain⟨vs,D,F⟩:=s j l;have I:j≠o:=fun h=>by rw[h]at l;rw[show eE kl o=true from l]at f;cases f
  refine⟨vs.prune (· != o),?_,dl F⟩;rw[getElem?_set_ne (Ne.symm I),oI,getElem?_map,D];rfl
theorem dm{c:Code}(o:Nat){T:TypeId}{sz:Nat}{rows:List (List Dt)}(b:Is (eB H o) (.buf T sz rows))(d:eE kl o=false)(e:Wp P kl n B c Q E (H.set o (.fx T sz rows))):Wp P kl n B c Q E H:=by have a:=zy b (by simp);exact Wp.reob o (x:=.fx T sz rows) d (fun K G w g f h=>show ObR K w.heap G g (.buf T sz rows)from f.ob o g _ h a) (List.getElem?_eq_some_iff.1 a).1 e
theorem qF{α:Type}{k:Nat}{f:α->List Dt}{g:α->List (List Dt)}{e:α->List Dt}(h:∀x,(f x).set k (.l (g x))=e x):∀l:List α,oJ k (l.map f) (l.map g)=l.map e
 |[]=>rfl
 |x::l=>by simp only[map_cons,oJ,h x,qF h l]
theorem Li{α:Type}{l:List α}{f:α->List (List Dt)}{d:α}{i:Nat}(hi:i<l.length)(z:List (List Dt)):(l.map f).getD i z=f (l.getD i d):=by simp[getD_eq_getElem?_getD,hi]
theorem WX{α β:Type}{l:List α}{f:α->β}{d:α}{i:Nat}{x:α}(hi:i<l.length)(h:f x=f (l.getD i d)):List.map f (List.set l i x)=List.map f l:=by
 rw[map_set,h];have:(l.map f)[i]?=some (f (l.getD i d)):=by simp[getD_eq_getElem?_getD,hi]
 obtain⟨a,b⟩:=List.getElem?_eq_some_iff.1 this;rw[<-b];exact set_getElem_self a
theorem dn{c:Code}(o:Nat){T:TypeId}{sz:Nat}{rows:List (List Dt)}(b:Is (eB H o) (.fx T sz rows))(d:eE kl o=false)(e:Wp P kl n B c Q E (H.set o (.buf T sz rows))):Wp P kl n B c Q E H:=by have a:=zy b (by simp);exact Wp.reob o (x:=.buf T sz rows) d (fun K G w g f h=>show ObR K w.heap G g (.fx T sz rows)from f.ob o g _ h a) (List.getElem?_eq_some_iff.1 a).1 e
end
section
variable {P:Program} {kl:List Bool} {n:Nat} {B:Bs} {Q:Qt} {E:ep} {H:List Ob}
theorem dG{id:Nat}{l:List Oper}(h:ft P kl n B l.toArray (Q .normal) (ff P kl n l l ⟨E,H,True⟩)):Wp P kl n B (.region id l.toArray false) Q E H:=by
 intro b a w c;refine wp_region_lit ?_;have:=Rg.run (ops:=l.toArray) (l:=l) h;exact this b a w _ c fun d e i j f g=>⟨d,e,f,g⟩
theorem ec{id:Nat}{l:List Oper}{y:Code}(h:∀K:ep->List Ob->Prop,(∀E H,Wp P kl n B y Q E H->K E H)->(∀E H a b,kH kl E H a b->K a b->K E H)->ft P kl n B l.toArray K (ff P kl n l l ⟨E,H,True⟩)):Wp P kl n B (.seq (.region id l.toArray false) y) Q E H :=
 dc fun K c d=>dG (Q:=zF K Q) (h K c d)
theorem dx{id:Nat}{c:List Oper}(b:Plan)(e:P.follows .mixedOrders=true)(f:b.length=c.length)(g:iv c.toArray b [] (Array.replicate c.length false)=true)
  (h:Dr P kl n B c.toArray b [] E H (Q .normal)):Wp P kl n B (.region id c.toArray true) Q E H:=by
 intro j a w k;refine wp_region_any e ?_;have l:DC c.toArray (Array.replicate c.length false):=fun i hi=>by
  simp[Array.getD_eq_getD_getElem?,Array.getElem?_replicate]at hi;split at hi <;> simp at hi
 have d:=h j (fun _ he=>by cases he) _ l g;rw[f]at d;rw[show c.toArray.size=c.length by simp];exact dw _ d (k.drew _ (Nat.le_succ _)) fun m o q r d p=>⟨m,o,d,p⟩
theorem dP{id:Nat}{a:List Oper}{y:Code}(plan:Plan)(d:P.follows .mixedOrders=true)(e:plan.length=a.length)(f:iv a.toArray plan [] (Array.replicate a.length false)=true)
  (h:∀K:ep->List Ob->Prop,(∀E H,Wp P kl n B y Q E H->K E H)->(∀E H b c,kH kl E H b c->K b c->K E H)->i7 P kl n B a.toArray K (gc P kl n a plan ⟨[],E,H,True⟩)):Wp P kl n B (.seq (.region id a.toArray true) y) Q E H :=
 dc fun K g i=>dx (Q:=zF K Q) plan d e f (Dr.run (h K g i))
theorem ee{id:Nat}{d:List Oper}(plan:Plan)(k:P.follows .mixedOrders=true)(l:plan.length=d.length)(m:iv d.toArray plan [] (Array.replicate d.length false)=true)
  (h:∀K:ep->List Ob->Prop,(∀E H,Q .normal E H->K E H)->(∀E H b c,kH kl E H b c->K b c->K E H)->i7 P kl n B d.toArray K (gc P kl n d plan ⟨[],E,H,True⟩)):Wp P kl n B (.region id d.toArray true) Q E H:=by
 let K:ep->List Ob->Prop:=fun E H=>B.G0.length=kl.length->∀a w,Rel (cx P kl n B) E H a w->∃b c,Q .normal b c/\Rel (cx P kl n B) b c a w;have o:=dx (id:=id) (Q:=zF K Q) plan k l m (Dr.run (h K (fun E H j _ a w f=>⟨E,H,j,f⟩) (fun E H b c p q g a w f=>q g a w (Rel.cut g f p))));intro g a w f;refine wp_mono (o g a w f) ?_;intro e r s ⟨b,c,j,i⟩;cases e <;> first|exact j g r s i|exact⟨b,c,j,i⟩
end
section
variable {P:Program} {kl:List Bool} {n:Nat} {B:Bs} {K:ep->List Ob->Prop} {E:ep} {H:List Ob}
theorem Rg.skipG{b:Array Oper}{o:Oper}{l:List Oper}{v:Va}{gw:Nat×Bool}(h:Is o.guard (some gw))(hb:Is (gC b.toList E o) (some false))(m:fT n o.dst)
  (c:ft P kl n B b K (ff P kl n b.toList l ⟨eL E o.dst (.cnd false v),H,True⟩)):Rg P kl n B b (o::l) E H K:=by
 unfold Is gC at *;obtain⟨j,i⟩:=gw;rw[h]at hb;intro p a w Q k q;have r:=oQ k h hb;refine wpList_step fun y d=>?_;rw[if_neg (by rw[r];simp)];obtain⟨Kk,G,s,t,u,e,x,f⟩:=k;have g:RelV (cx P kl n B) E H undef (.cnd false v) a w:=⟨Kk,G,s,t,u,e,x,f,by simp[VR]⟩;exact d _ _ (Rg.run c p _ _ _ (g.put o.dst (zQ m)) q)
def uO(a:List Oper)(o:Oper)(E:ep)(v:Va)(b:Option (Nat->Bool))(_:List Ob):Prop:=TJ a o E (.cnd false v) b
theorem Dr.skipG{b:List Oper}{l:Plan}{c:List En}{k:Nat}{o:Oper}{v:Va}{gw:Nat×Bool}(d:Is b[k]? (some o))(m:Is o.guard (some gw))(hb:Is (gC b E o) (some false))(x:fT n o.dst)
  (e:i7 P kl n B b.toArray K (gc P kl n b l ⟨⟨k,E,.cnd false v,uO b o E v⟩::c,eL E o.dst (.cnd false v),H,True⟩)):Dr P kl n B b.toArray (.rd k l) c E H K:=by
 unfold Is gC at *;obtain⟨j,f⟩:=gw;rw[m]at hb;have p:=Dr.run e;simp only at p;rw[<-ja d]at p;have g:∀H',Rdr P kl n B b.toArray k E (.cnd false v) H':=by
  intro H' I q a w Q J u h;rw[ja d]at h;have i:iE b.toArray.toList E j f=some false:=by simpa using hb
  rw[<-A4 (gT d) m q]at i;have y:=oQ u m i;unfold wpOp;simp only[gT d];rw[if_neg (by rw[y];simp)];obtain⟨Kk,G,z,A,D,r,F,s⟩:=u;exact h _ _ (RelV.put (C:=cx P kl n B) (v:=.cnd false v) ⟨Kk,G,z,A,D,r,F,s,by simp[VR]⟩ o.dst (zQ x))
 exact dF (fun _=>g _) (fun _ L H' t=>⟨g _,lZ d t⟩) p
end
attribute [go_sem] uO
attribute [go_sem] Zn Option.getD_none Option.getD_some Nat.sub_zero Nat.zero_add drop_zero
def gQ(i j o:Nat):Nat:=bif o == i then j else bif o == j then i else o
mutual
def gG(i j:Nat):Va->Va
 |.p x=>.p x
 |.nils=>.nils
 |.full r=>.full r
 |.rp r=>.rp r
 |.ptr o b=>.ptr (gQ i j o) b
 |.cs o b=>.cs (gQ i j o) b
 |.el o c k b=>.el (gQ i j o) c k b
 |.buf o=>.buf (gQ i j o)
 |.mp o=>.mp (gQ i j o)
 |.np o=>.np (gQ i j o)
 |.sd o=>.sd (gQ i j o)
 |.vw o c a n=>.vw (gQ i j o) c a n
 |.bufc o e=>.bufc (gQ i j o) e
 |.nv o k=>.nv (gQ i j o) k
 |.ne o c k l b=>.ne (gQ i j o) c k l b
 |.fn f d=>.fn f (kU i j d)
 |.agg d=>.agg (kU i j d)
 |.tup d=>.tup (kU i j d)
 |.nil=>.nil
 |.cnd t v=>.cnd t (gG i j v)
 |.raw v=>.raw v
 |.er v=>.er v
 |.top=>.top
def kU(i j:Nat):List Va->List Va
 |[]=>[]
 |v::a=>gG i j v::kU i j a
end
def um(i j:Nat):Ob->Ob
 |.cells T m=>.cells T (kU i j m)
 |.it o d c=>.it (gQ i j o) d c
 |.buf T b a=>.buf T b a
 |.fx T b a=>.fx T b a
 |.sb T e=>.sb T e
 |.mp g h=>.mp g h
 |.mpb g h e d=>.mpb g h e d
 |.nst f T b k p a n=>.nst f T b k (gQ i j p) a n
 |.inn T b l=>.inn T b l
 |.gone=>.gone
 |.lost=>.lost
def He(i j:Nat):ep->ep
 |[]=>[]
 |(m,v)::E=>(m,gG i j v)::He i j E
def Bf{A:Type}(i j:Nat)(l:List A):List A:=match l[i]?,l[j]? with
 |some x,some y=>(l.set i y).set j x
 |_,_=>l
def pb(i j:Nat):List Ob->List Ob
 |[]=>[]
 |x::H=>um i j x::pb i j H
def Hc(i j:Nat)(H:List Ob):List Ob:=((pb i j H).set i (eB (pb i j H) j)).set j (eB (pb i j H) i)
theorem ul(i j:Nat)(H:List Ob):pb i j H=H.map (um i j):=by induction H <;> simp_all[pb]
theorem Hb(i j o:Nat):gQ i j o=if o=i then j else if o=j then i else o:=by
 unfold gQ;by_cases a:o=i
 .subst a;simp
 .rw[beq_false_of_ne a,if_neg a,cond_false];by_cases b:o=j
  .subst b;simp
  .rw[beq_false_of_ne b,if_neg b,cond_false]
theorem kV(i j o:Nat):gQ i j (gQ i j o)=o:=by
 simp only[Hb];repeat' split
 all_goals omega
theorem qn{A:Type}{i j:Nat}{l:List A}(hi:i<l.length)(b:j<l.length)(o:Nat):(Bf i j l)[o]?=l[gQ i j o]?:=by
 unfold Bf;rw[getElem?_eq_getElem hi,getElem?_eq_getElem b];unfold gQ;by_cases c:o=i
 .subst c;by_cases a:j=o
  .subst a;simp[hi]
  .simp only[beq_self_eq_true,cond_true];rw[getElem?_set_ne a,getElem?_set_self hi,getElem?_eq_getElem b]
 .rw[beq_false_of_ne c];simp only[cond_false];by_cases a:o=j
  .subst a;simp only[beq_self_eq_true,cond_true];rw[getElem?_set_self (by simpa using b),getElem?_eq_getElem hi]
  .rw[beq_false_of_ne a,cond_false,getElem?_set_ne (Ne.symm a),getElem?_set_ne (Ne.symm c)]
theorem m7{o:Nat}:∀{H:List Ob} {x:Ob},H[o]?=some x->eB H o=x:=by
 induction o with
 |zero=>intro H x h;cases H <;> simp_all[eB]
 |succ o a=>intro H x h;cases H with
  |nil=>simp at h
  |cons y H=>simpa [eB]using a (by simpa using h)
theorem un{i j:Nat}{H:List Ob}(hi:i<H.length)(c:j<H.length):Hc i j H=Bf i j (H.map (um i j)):=by
 have a:(H.map (um i j))[i]?=some (um i j H[i]):=by simp[hi]
 have b:(H.map (um i j))[j]?=some (um i j H[j]):=by simp[c]
 rw[Hc,ul,Bf,a,b,m7 a,m7 b]
theorem Wu{A:Type}{i j:Nat}{l:List A}:(Bf i j l).length=l.length:=by
 unfold Bf;split <;> simp
theorem Ha{i j o n:Nat}(hi:n<=i)(a:n<=j)(b:o<n):gQ i j o=o:=by unfold gQ;rw[beq_false_of_ne (by omega:o≠i),beq_false_of_ne (by omega:o≠j)];rfl
section
variable {K:Nat->Prop} {h:Array Obj} {G G':List Gh} {i j:Nat}
mutual
theorem oZ(s:∀(o:Nat) (g:Gh),G[o]?=some g->G'[gQ i j o]?=some g):∀(c:Value) (v:Va),VR K h G c v->VR K h G' c (gG i j v)
 |_,.p x,H=>by simpa only[gG,VR]using H
 |_,.nils,H=>by simpa only[gG,VR]using H
 |_,.full r,H=>by simpa only[gG,VR]using H
 |_,.rp r,H=>by simpa only[gG,VR]using H
 |_,.ptr o u,H=>by simp only[gG,VR]at *;obtain⟨g,b,d,m⟩:=H;exact⟨g,b,s o g d,m⟩
 |_,.cs o u,H=>by simp only[gG,VR]at *;obtain⟨g,b,d,m⟩:=H;exact⟨g,b,s o g d,m⟩
 |_,.el o y k u,H=>by simp only[gG,VR]at *;obtain⟨g,b,n,q,d,m⟩:=H;exact⟨g,b,n,q,s o g d,m⟩
 |_,.buf o,H=>by simp only[gG,VR]at *;obtain⟨g,d,m⟩:=H;exact⟨g,s o g d,m⟩
 |_,.mp o,H=>by simp only[gG,VR]at *;obtain⟨g,b,d,m⟩:=H;exact⟨g,b,s o g d,m⟩
 |_,.np o,H=>by
  simp only[gG,VR]at *;rcases H with H|⟨g,b,d,m⟩
  .exact .inl H
  .exact .inr ⟨g,b,s o g d,m⟩
 |_,.sd o,H=>by simp only[gG,VR]at *;obtain⟨g,a,n,q,d,m⟩:=H;exact⟨g,a,n,q,s o g d,m⟩
 |_,.vw o y a n,H=>by simp only[gG,VR]at *;obtain⟨g,z,N,q,d,m⟩:=H;exact⟨g,z,N,q,s o g d,m⟩
 |_,.bufc o A,H=>by simp only[gG,VR]at *;obtain⟨g,a,n,q,d,m⟩:=H;exact⟨g,a,n,q,s o g d,m⟩
 |_,.nv o k,H=>by simp only[gG,VR]at *;obtain⟨g,a,n,q,d,m⟩:=H;exact⟨g,a,n,q,s o g d,m⟩
 |_,.ne o y k l u,H=>by simp only[gG,VR]at *;obtain⟨g,b,n,q,d,m⟩:=H;exact⟨g,b,n,q,s o g d,m⟩
 |_,.fn f w,H=>by simp only[gG,VR]at *;obtain⟨cs,d,m⟩:=H;exact⟨cs,d,Mr s cs w m⟩
 |_,.agg w,H=>by simp only[gG,VR]at *;obtain⟨cs,d,m⟩:=H;exact⟨cs,d,Mr s cs w m⟩
 |_,.tup w,H=>by simp only[gG,VR]at *;obtain⟨cs,d,m⟩:=H;exact⟨cs,d,Mr s cs w m⟩
 |_,.nil,H=>by simpa only[gG,VR]using H
 |_,.cnd t v,H=>by simp only[gG,VR]at *;exact⟨fun e=>oZ s _ v (H.1 e),H.2⟩
 |_,.raw v,H=>by simpa only[gG,VR]using H
 |_,.er v,H=>by simpa only[gG,VR]using H
 |_,.top,H=>by simp only[gG,VR]
theorem Mr(d:∀(o:Nat) (g:Gh),G[o]?=some g->G'[gQ i j o]?=some g):∀(cs:List Value) (b:List Va),VRs K h G cs b->VRs K h G' cs (kU i j b)
 |_,[],H=>by simpa only[kU,VRs]using H
 |_,v::b,H=>by simp only[kU,VRs]at *;obtain⟨c,a,e,f,k⟩:=H;exact⟨c,a,e,oZ d c v f,Mr d a b k⟩
end
theorem G9(e:∀(o:Nat) (g:Gh),G[o]?=some g->G'[gQ i j o]?=some g){g:Gh}{x:Ob}(H:ObR K h G g x):ObR K h G' g (um i j x):=by
 cases x with
 |cells T l=>obtain⟨b,cs,a,c,d⟩:=H;exact⟨b,cs,a,c,Mr e cs l d⟩
 |it o w m=>obtain⟨b,s,n,a,c,d⟩:=H;exact⟨b,s,n,a,e o n c,d⟩
 |nst f T t k p q y=>obtain⟨u,a,r,l,c,d⟩:=H;exact⟨u,a,r,l,e p r c,d⟩
 |inn T t v=>exact H
 |_=>exact H
theorem xY{E:ep}:∀{m:Nat},eM (He i j E) m=gG i j (eM E m):=by
 intro m;induction E with
 |nil=>rfl
 |cons p E a =>
  obtain⟨k,v⟩:=p;simp only[He,eM];split
  .rfl
  .exact a
end
section
variable {P:Program} {kl:List Bool} {n:Nat} {B:Bs} {Q:Qt} {E:ep} {H:List Ob} {a:Act} {w:World}
theorem Rel.swap{i j:Nat}(C:B.G0.length=kl.length)(hi:kl.length<=i)(D:kl.length<=j)(d:i<H.length)(e:j<H.length)(h:Rel (cx P kl n B) E H a w):Rel (cx P kl n B) (He i j E) (Hc i j H) a w:=by
 obtain⟨K,G,r,f,F,I,J,L⟩:=h;have s:i<G.length:=by rw[f.len];exact d
 have t:j<G.length:=by rw[f.len];exact e
 have p:=fun o=>qn s t o;have v:∀(o:Nat) (g:Gh),G[o]?=some g->(Bf i j G)[gQ i j o]?=some g:=fun o g k=>by rw[p,kV];exact k
 have z:∀o,(Hc i j H)[o]?=(H[gQ i j o]?).map (um i j):=fun o=>by rw[un d e,qn (by simpa using d) (by simpa using e),getElem?_map]
 have q:∀o,o<kl.length->gQ i j o=o:=fun o k=>Ha hi D k;refine⟨K,Bf i j G,?_,?_,fun m=>?_,I,J,fun o k=>?_⟩
 .exact { r with
   glen:=by rw[Wu];exact r.glen
   gown:=fun o g b c hb=>by rw[p]at c;exact r.gown _ g b c hb
   gsame:=fun o M k A=>by
    rw[p,q o (by rw[<-C];exact(List.getElem?_eq_some_iff.1 A).1)];exact r.gsame o M k A }
 .refine⟨by rw[Wu,un d e,Wu,length_map];exact f.len,f.kb,fun o g b c l=>f.gbo _ g b (by rw[<-p];exact c) l,fun o T g N b c l O Q=>?_,fun o g x c l=>?_,f.tb⟩
  .rw[p]at c l;have:=f.ijo _ _ g N b c l O Q;rw[<-kV i j o,this,kV]
  .rw[p]at c;rw[z]at l;obtain⟨y,R,rfl⟩:=Option.map_eq_some_iff.1 l;exact G9 v (f.ob _ g y c R)
 .rw[xY];exact oZ v _ _ (F m)
 .obtain⟨x,S,u⟩:=L o k;refine⟨um i j x,by rw[z,q o (iP k),S];rfl,?_⟩;cases x <;> exact u
theorem Wp.swap(i j:Nat){c:Code}(hi:kl.length<=i)(f:kl.length<=j)(b:i<H.length)(d:j<H.length)(h:Wp P kl n B c Q (He i j E) (Hc i j H)):Wp P kl n B c Q E H:=fun e a w g=>h e a w (Rel.swap e hi f b d g)
structure Lss(kl:List Bool)(K:ep->List Ob->Prop):Prop where
 weak:∀E H E' H',kH kl E H E' H'->K E' H'->K E H
 swap:∀i j E H,kl.length<=i->kl.length<=j->i<H.length->j<H.length->K (He i j E) (Hc i j H)->K E H
theorem dA{id:Nat}{b:List Oper}{y:Code}(plan:Plan)(m:P.follows .mixedOrders=true)(o:plan.length=b.length)(p:iv b.toArray plan [] (Array.replicate b.length false)=true)
  (h:∀K:ep->List Ob->Prop,(∀E H,Wp P kl n B y Q E H->K E H)->Lss kl K->i7 P kl n B b.toArray K (gc P kl n b plan ⟨[],E,H,True⟩)):Wp P kl n B (.seq (.region id b.toArray true) y) Q E H:=by
 intro f a w q;refine wp_seq (wp_mono (dx (Q:=zF (fun E H=>Wp P kl n B y Q E H) Q) plan m o p (Dr.run (h _ (fun _ _ h=>h) ⟨fun E H g k r d=>Wp.weak r d,fun i j E H s t u v d=>Wp.swap i j s t u v d⟩)) f a w q) ?_);intro e x z ⟨g,k,l,c⟩;cases e <;> first|exact l f x z c|exact⟨g,k,l,c⟩
attribute [go_sem] He gG kU Hc um pb gQ
end
def Dt.flat:Dt->Bool
 |.l _=>false
 |.a _=>false
 |.r _=>false
 |_=>true
def nJ:List Dt->Bool
 |[]=>true
 |d::a=>d.flat&&nJ a
def KG(a:List (List Dt)):Prop:=∀r∈a,nJ r=true
theorem pR{α:Type}{e:α->List Dt}(h:∀x,nJ (e x)=true)(l:List α):KG (List.map e l):=fun r a=>by obtain⟨x,_,rfl⟩:=mem_map.1 a;exact h x
section
variable {K K':Nat->Prop} {h h':Array Obj}
theorem DR.flat{c:Value}:∀{d:Dt},d.flat=true->DR K h c d->DR K' h' c d
 |.b _,_,e=>by simpa only[DR]using e
 |.i _ _,_,e=>by simpa only[DR]using e
 |.s _,_,e=>by simpa only[DR]using e
 |.l _,f,_=>by simp[Dt.flat]at f
 |.a _,f,_=>by simp[Dt.flat]at f
 |.r _,f,_=>by simp[Dt.flat]at f
theorem DRs.flat:∀{a:List Dt} {b:List Value},nJ a=true->DRs K h b a->DRs K' h' b a
 |[],_,_,c=>by simpa only[DRs]using c
 |d::a,b,f,c=>by simp only[nJ,Bool.and_eq_true]at f;simp only[DRs]at *;obtain⟨v,g,e,i,j⟩:=c;exact⟨v,g,e,DR.flat f.1 i,DRs.flat f.2 j⟩
theorem DRss.flat{sz:Nat}:∀{rows:List (List Dt)} {c:List Value},KG rows->DRss K h sz c rows->DRss K' h' sz c rows
 |[],_,_,d=>by simpa only[DRss]using d
 |r::rows,c,f,d=>by simp only[DRss]at *;obtain⟨a,b,e,g,i,j⟩:=d;exact⟨a,b,e,g,DRs.flat (f r (by simp)) i,DRss.flat (fun k h'=>f k (by simp[h'])) j⟩
end
theorem dT{K c:Nat->Prop}{h:Array Obj}{G d:List Gh}{g:Gh}{T:TypeId}{b:Nat}{a:List (List Dt)}(e:KG a)(f:ObR K h G g (.buf T b a)):ObR c h d g (.buf T b a):=by obtain⟨i,j,k,l⟩:=f;exact⟨i,j,DRss.flat e k,l⟩
theorem St.push1{K:Nat->Prop}{G:List Gh}{H:List Ob}{w:World}{g:Gh}{x:Ob}(c:St K G H w)(v:ObR K w.heap (G++[g]) g x)
  (hb:∀b,own g b->b<w.heap.size/\¬ K b/\∀(o:Nat) (a:Gh),G[o]?=some a->¬ own a b):St K (G++[g]) (H++[x]) w:=by
 have cs:∀{o:Nat} {a:Gh},(G++[g])[o]?=some a->(o<G.length/\G[o]?=some a)∨(o=G.length/\a=g):=by
  intro o a h;rcases Nat.lt_or_ge o G.length with j|j
  .rw[getElem?_append_left j]at h;exact .inl ⟨j,h⟩
  .rw[getElem?_append_right j]at h;rcases Nat.eq_zero_or_pos (o-G.length)with l|l
   .rw[l]at h;simp at h;exact .inr ⟨by omega,h.symm⟩
   .rw[getElem?_eq_none (by simp;omega)]at h;cases h
 refine⟨by simp[c.len],c.kb,fun o a b m d=>?_,fun o r s t b j l e i=>?_,fun o a y m k=>?_,c.tb⟩
 .rcases cs m with⟨_,h⟩|⟨_,rfl⟩
  .exact c.gbo o a b h d
  .exact⟨(hb b d).1,(hb b d).2.1⟩
 .rcases cs j with⟨_,n⟩|⟨n,rfl⟩ <;> rcases cs l with⟨_,p⟩|⟨p,rfl⟩
  .exact c.ijo o r s t b n p e i
  .exact absurd e ((hb b i).2.2 o s n)
  .exact absurd i ((hb b e).2.2 r t p)
  .omega
 .rcases cs m with⟨z,h⟩|⟨rfl,rfl⟩
  .rw[getElem?_append_left (by rw[<-c.len];exact z)]at k;exact ObR.keep ⟨fun _ h=>h,fun _ _=>rfl⟩ (f:=fun _=>true) (fun q A _ u=>by rw[getElem?_append_left (List.getElem?_eq_some_iff.1 u).1];exact u) (fun _ _=>rfl) (Ob.all_true _) (c.ob o a y h k)
  .rw[c.len,getElem?_append_right (Nat.le_refl _)]at k;simp at k;subst k;exact v
section
variable {P:Program} {kl:List Bool} {n:Nat} {B:Bs} {K:ep->List Ob->Prop} {E:ep} {H:List Ob}
theorem V3{o:Oper}{c:Call}{j:Operand}{f:FuncId}{p args:List Va}{T:TypeId}{J:Nat}{d:List (List Dt)}(hs:Does P f args [] fun r X=>r=.buf 0/\X=[.buf T J d])(K:KG d)(ho:o.op=.call c)(hc:c.callee=.value j)
  (C:opOk true E j/\allOk true E c.args.toList) (hf:opnd E j=.fn f p) (hp:jb H (opnds E c.args.toList++p)=some args) {a:Act} {w:World} {Q:Exit->Act->World->Prop} {K':Act->World->Prop} (hR:Rel (cx P kl n B) E H a w)
  (hK:∀L w',RelV (cx P kl n B) E (H++[.buf T J d]) L (.buf H.length) a w'->K' (a.put o.dst L) w'):o.wp P a w K' Q:=by
 obtain⟨Kk,G,hX,s,M,N,hn,O⟩:=hR;have t:=zD M rfl j C.1;rw[hf]at t;simp only[VR]at t;obtain⟨cs,R,S⟩:=t;have u:=xe M rfl c.args.toList C.2;have D:=xH s hp (u.append S);unfold Oper.wp;rw[Lh ho hc R hs.1];simp only[Oper.upon];refine(hs.2 (tH Kk G) [] w _ (St.nil (Uk s) (s.tb.mono ⟨fun _ h=>.inl h,fun _ _=>rfl⟩)) D).mono ?_;rintro e w' ⟨L,r,X',K1,G1,rfl,⟨rfl,rfl⟩,i,v,hv,_⟩;have fr:∀b,b<w.heap.size->w'.heap[b]?=w.heap[b]?:=fun b hb=>i.frame b hb (fun o U h=>by simp at h);have hA:=s.after i;simp only[VR]at hv;obtain⟨g,x,rfl,V⟩:=hv;have W:G1=[g]:=by
  have hl:=v.len;match G1,hl,x with
  |[k],_,x=>simp at x;rw[x]
 subst W;have l:∀b,own g b->w.heap.size<=b/\b<w'.heap.size:=fun b hb=>⟨(i.gown 0 g b x hb).elim (fun⟨_,_,h,_⟩=>by simp at h) id,(v.gbo 0 g b x hb).1⟩;have hx:=v.ob 0 g (.buf T J d) x rfl;have Y:St Kk (G++[g]) (H++[.buf T J d]) w':=hA.push1 (dT K hx) fun b hb=>⟨(l b hb).2,fun Z=>by have:=s.kb b Z;have:=(l b hb).1;omega,fun F k h' e=>by have:=(s.gbo F k b h' e).1;have:=(l b hb).1;omega⟩;have I:Mg (fun _=>true) G (G++[g]):=fun q U _ hq=>by rw[getElem?_append_left (List.getElem?_eq_some_iff.1 hq).1];exact hq
 have cs:∀{o:Nat} {k:Gh},(G++[g])[o]?=some k->(o<G.length/\G[o]?=some k)∨(o=G.length/\k=g):=by
  intro o k h;rcases Nat.lt_or_ge o G.length with A|A
  .rw[getElem?_append_left A]at h;exact .inl ⟨A,h⟩
  .rw[getElem?_append_right A]at h;rcases Nat.eq_zero_or_pos (o-G.length)with h2|h2
   .rw[h2]at h;simp at h;exact .inr ⟨by omega,h.symm⟩
   .rw[getElem?_eq_none (by simp;omega)]at h;cases h
 have hX2:Ext (eE kl) B.K0 B.G0 B.w0 Kk (G++[g]) w':=by
  refine hX.trans ⟨i.os,i.tape,i.output,i.size,fun _ h=>h,fun _ h=>.inl h,by simp,fun F k b A hb=>?_,fun F U _ h0=>I F U rfl h0,fun b hb _=>fr b hb⟩;rcases cs A with⟨_,h⟩|⟨_,rfl⟩
  .exact .inl ⟨F,k,h,hb⟩
  .exact .inr (l b hb).1
 refine hK g.sv w' ⟨Kk,G++[g],hX2,Y,fun m=>VR.keep (f:=fun _=>true) ⟨fun _ h=>h,fun b hb=>fr b (s.kb b hb)⟩ I _ _ (Va.all_true _) (M m),N,hn,fun y hy=>?_,?_⟩
 .obtain⟨z,hz,Z⟩:=O y hy;exact⟨z,by rw[getElem?_append_left (List.getElem?_eq_some_iff.1 hz).1];exact hz,Z⟩
 .simp only[VR];exact⟨g,by rw[<-s.len];simp,rfl,V⟩
end
section
variable {P:Program} {kl:List Bool} {n:Nat} {B:Bs} {ops:List Oper} {K:ep->List Ob->Prop} {l:Plan} {obs:List En} {E:ep} {H:List Ob}
theorem Br.callLN{k:Nat}{L:List Nat}{f:FuncId}{av args:List Va}{o:Oper}{T:TypeId}{sz:Nat}{rows:List (List Dt)}(hs:Does P f args [] fun r X=>r=.buf 0/\X=[.buf T sz rows])(q:KG rows)(s:Is ops[k]? (some o))(d:Is (hD E o) (some (f,av)))(hb:Is (gC ops E o) (some true))(I:Is (jb H av) (some args))(J:ij n true E o)
  (hag:qi L none (H++[.buf T sz rows]) obs)
  (t:i7 P kl n B ops.toArray K (gc P kl n ops l ⟨obs,eL E o.dst (ig o.guard true (.buf H.length)),H++[.buf T sz rows],True⟩)):Br P kl n B ops.toArray k L l obs E H K:=by
 unfold Is at *;unfold hD at d;split at d;rotate_left
 .cases d
 rename_i c D;split at d;rotate_left
 .cases d
 rename_i fop F;split at d;rotate_left
 .cases d
 rename_i f' O M;cases d;obtain⟨R,h,i⟩:=qj J D F;have h':=Dr.run t;simp only at h';rw[<-ja s]at h';refine Br.eff (po:=none) (fun _=>?_) hag h';intro E' u a w Q K' N y;have m:=xd (gT s) u;rw[D]at m;have z:eK E fop=eK E' fop:=m fop (by simp[Op.operands,Call.operands,F]);have g:Agree c.args.toList E E':=fun x S=>m x (by simp only[Op.operands,Call.operands,Array.toList_append,mem_append];exact .inr S);rw[Agree.opOk z]at h;rw[Agree.allOk g]at i;rw[Agree.opnd z]at M;rw[Agree.opnds g]at I;rw[ja s]at y;unfold wpOp;simp only[gT s];unfold gC at hb;cases b:o.guard with
 |none =>
  rw[b]at hb y;rw[if_pos (by simp[Region.wanted,b])];exact .inl (V3 hs q D F ⟨h,i⟩ M I N fun U V p=>y _ _ (p.put o.dst (zQ R)))
 |some W =>
  obtain⟨j,A⟩:=W;rw[b]at hb y;have C:iE ops.toArray.toList E j A=some true:=by simpa using hb
  rw[<-A4 (gT s) b u]at C;have Y:=oQ N b C;rw[if_pos Y];exact .inl (V3 hs q D F ⟨h,i⟩ M I N fun U V p=>y _ _ (RelV.put (v:=.cnd true _) (by
   obtain⟨Kk,G,Z,q2,q3,q4,q5,q6,q7⟩:=p;exact⟨Kk,G,Z,q2,q3,q4,q5,q6,by simp only[VR];exact⟨fun _=>q7,fun e=>Bool.noConfusion e⟩⟩) o.dst (zQ R)))
theorem Br.skipG{k:Nat}{L:List Nat}{o:Oper}{v:Va}{gw:Nat×Bool}(b:Is ops[k]? (some o))(c:Is o.guard (some gw))(hb:Is (gC ops E o) (some false))(e:fT n o.dst)
  (a:i7 P kl n B ops.toArray K (gc P kl n ops l ⟨obs,eL E o.dst (.cnd false v),H,True⟩)):Br P kl n B ops.toArray k L l obs E H K:=by
 unfold Is gC at *;obtain⟨j,d⟩:=gw;rw[c]at hb;have h':=Dr.run a;simp only at h';rw[<-ja b]at h';exact Br.skip (fun _=>mV b c hb e) h'
theorem dN{k:Nat}{L:List Nat}{f:FuncId}{av args:List Va}{X Y:List Ob}{o:Oper}{v:Va}(b:List Nat)(hs:Does P f args X fun r M=>r=v/\M=Y)(t:Is ops[k]? (some o))(g:Is (hD E o) (some (f,av)))(hb:Is (gC ops E o) (some true))(N:Is (kI b av) (some args))(u:Is (i6 b H b) (some X))(h:jr H.length b=true)(O:ij n true E o)
  (hag:qi L (some (fH b H)) (fw (fG (fH b H) H) b (gu b H.length Y)) obs)
  (y:i7 P kl n B ops.toArray K (gc P kl n ops l ⟨obs,eL (fX (fH b H) E) o.dst (ig o.guard true (eW b H.length v)),fw (fG (fH b H) H) b (gu b H.length Y),True⟩)):Br P kl n B ops.toArray k L l obs E H K:=by
 unfold Is at *;unfold hD at g;split at g;rotate_left
 .cases g
 rename_i c I;split at g;rotate_left
 .cases g
 rename_i fop J;split at g;rotate_left
 .cases g
 rename_i f' V R;cases g;obtain⟨W,m,p⟩:=qj O I J;have h':=Dr.run y;simp only at h';rw[<-ja t]at h';refine Br.eff (po:=some (fH b H)) (fun _=>?_) hag h';intro E' z a w Q K' S A;have q:=xd (gT t) z;rw[I]at q;have C:eK E fop=eK E' fop:=q fop (by simp[Op.operands,Call.operands,J]);have i:Agree c.args.toList E E':=fun x Z=>q x (by simp only[Op.operands,Call.operands,Array.toList_append,mem_append];exact .inr Z);rw[Agree.opOk C]at m;rw[Agree.allOk i]at p;rw[Agree.opnd C]at R;rw[Agree.opnds i]at N;rw[ja t]at A;unfold wpOp;simp only[gT t];unfold gC at hb;cases d:o.guard with
 |none =>
  rw[d]at hb A;rw[if_pos (by simp[Region.wanted,d])];refine .inl (BT b hs I J ⟨m,p⟩ R N u h S fun c' r M w' ⟨T,U⟩ _ s=>?_);subst T;subst U;exact A _ _ (s.put o.dst (zQ W))
 |some gw =>
  obtain⟨j,D⟩:=gw;rw[d]at hb A;have F:iE ops.toArray.toList E j D=some true:=by simpa using hb
  rw[<-A4 (gT t) d z]at F;have hw:=oQ S d F;rw[if_pos hw];refine .inl (BT b hs I J ⟨m,p⟩ R N u h S fun c' r M w' ⟨T,U⟩ _ s=>?_);subst T;subst U;exact A _ _ (RelV.put (v:=.cnd true _) (by
   obtain⟨Kk,G,q1,q2,q3,q4,q5,q6,q7⟩:=s;exact⟨Kk,G,q1,q2,q3,q4,q5,q6,by simp only[VR];exact⟨fun _=>q7,fun e=>Bool.noConfusion e⟩⟩) o.dst (zQ W))
end
attribute [go_sem] Option.toArray Array.toList_append
section
variable {P:Program} {kl:List Bool} {n:Nat} {B:Bs} {K:ep->List Ob->Prop} {E:ep} {H:List Ob}
theorem Rg.callLN{b:Array Oper}{o:Oper}{l:List Oper}{f:FuncId}{av args:List Va}{T:TypeId}{sz:Nat}{rows:List (List Dt)}(hs:Does P f args [] fun r X=>r=.buf 0/\X=[.buf T sz rows])(e:KG rows)(q:Is (xb E o) (some (f,av)))(s:Is (jb H av) (some args))(g:ij n true E o)
  (d:ft P kl n B b K (ff P kl n b.toList l ⟨eL E o.dst (.buf H.length),H++[.buf T sz rows],True⟩)):Rg P kl n B b (o::l) E H K:=by
 obtain⟨c,t,k,m,u,p,v,x⟩:=UX q;obtain⟨y,z⟩:=qj g m p;intro A a w Q C h;refine wpList_plain u fun K' i=>?_;exact V3 hs e m p z v (by rw[<-x];exact s) C fun D F j=>i _ _ (Rg.run d A _ _ _ (j.put o.dst (zQ y)) h)
end
def pO:List Nat->Nat->Bool
 |[],_=>false
 |x::l,i=>bif i == x then true else pO l i
def mf(a:List Nat):Nat->List Bool->List Bool
 |_,[]=>[]
 |i,b::l=>(b&&!pO a i)::mf a (i+1) l
theorem Zb(a:List Nat):∀(i:Nat) (l:List Bool),(mf a i l).length=l.length
 |_,[]=>rfl
 |i,b::l=>by simp[mf,Zb a (i+1) l]
theorem j2(a:List Nat):∀(i:Nat) (l:List Bool) (o:Nat),eE (mf a i l) o=(eE l o&&!pO a (i+o))
 |_,[],o=>by simp[mf,eE]
 |i,b::l,0=>by simp[mf,eE]
 |i,b::l,o+1=>by simp only[mf,eE];rw[j2 a (i+1) l o,show i+1+o=i+(o+1)by omega]
theorem vg{a:List Nat}{X:List Ob}:jG (eE (mf a 0 (kinds X))) X:=fun o h=>by rw[j2,Bool.and_eq_true]at h;exact KV X o h.1
def DoesC(P:Program)(f:FuncId)(args:List Va)(X:List Ob)(i:List Nat)(a:Va->List Ob->Prop):Prop :=
 Ld P f/\∀K G w vals,St K G X w->VRs K w.heap G vals args ->
  Calls P f vals.toArray w fun e b=>∃c r d g h,e=.returned c/\a r d/\Ext (eE (mf i 0 (kinds X))) K G w g h b/\St g h d b/\VR g b.heap h c r/\jG (eE (mf i 0 (kinds X))) d
theorem DoesC.of_wp {P:Program} {f:FuncId} {fn:Func} {code:Code} {args:List Va} {X:List Ob} {Post:Va->List Ob->Prop} (b:List Nat) (m n:Nat) (U:List ResultVar) (V:P.funcs[f]?=some fn) (hb:fn.body=some code) (C:(fn.name == "runtime.NumGoroutine")=false) (hn:fn.ntmps=n) (D:fn.results.toList=U) (hl:args.length<=n)
  (h:∀B,Wp P (mf b 0 (kinds X)) n B code (mU P U m (mf b 0 (kinds X)) Post) (w4 0 args) X):DoesC P f args X b Post:=by
 subst hn;subst D;refine⟨⟨fn,V,C,by rw[hb];rfl⟩,fun K G w vals W Y=>?_⟩;have hvl:=Y.length;refine calls_of_wp V hb ?_;have Z:G.length=(mf b 0 (kinds X)).length:=by rw[Zb,WU,W.len]
 have hR:Rel (cx P (mf b 0 (kinds X)) fn.ntmps ⟨K,G,w⟩) (w4 0 args) X { tmps:=vals.toArray++Array.replicate (fn.ntmps-vals.toArray.size) undef,defers:=[] } w:=by
  refine⟨K,G,Ext.refl _ _ _ _,W,fun j=>?_,rfl,by simp;omega,vg⟩;have:=We (K:=K) (h:=w.heap) (G:=G) 0 j Y;simp only[Nat.zero_le,if_true,Nat.sub_zero]at this;have e:(vals.toArray++Array.replicate (fn.ntmps-vals.toArray.size) undef).getD j undef=vals.getD j undef:=by
   rw[Array.getD_eq_getD_getElem?,getD_eq_getElem?_getD,Array.getElem?_append];split
   .simp
   .rename_i hj;rw[getElem?_eq_none (by simpa using hj),Array.getElem?_replicate];split <;> rfl
  rw[e];exact this
 refine wp_mono (h ⟨K,G,w⟩ Z _ _ hR) ?_;intro e a p ⟨E,H,d,F⟩;have s:ic P fn.results.toList m (mf b 0 (kinds X)) Post E H->a.defers=[]/\∃v,(results fn a.tmps).run P p=.ok v p/\∃c r X' I J,Ending.returned v=.returned c/\Post r X'/\Ext (eE (mf b 0 (kinds X))) K G w I J p/\St I J X' p/\VR I p.heap J c r/\jG (eE (mf b 0 (kinds X))) X':=by
  intro d;obtain⟨h1,h2,h3,h4,h5,r,X',h6,h7,z,h9,L,M⟩:=d;obtain⟨K1,q,hX,i,hE,hd,_,hk⟩:=F;obtain⟨c,hc,hv⟩:=qr (P:=P) i hE h1;have N:G.length<=m:=by rw[Z];exact h2
  have O:Mg (fun o=>decide (o<m)) q (q.take m):=fun o g A hg=>by rw[getElem?_take,if_pos (by simpa using A)];exact hg
  have Q:VR (AF K1 q H m) p.heap (q.take m) c (gg m H (gf P E H fn.results.toList).v):=VR.keep ⟨fun _ h=>h,fun _ _=>rfl⟩ O _ _ h4 (lf i m hv);have R:=i.out h5;have t:=R.cut h7 (by rw[z];exact L);rw[z,take_take,Nat.min_self]at t;refine⟨hd,c,hc,c,r,X',AF K1 q H m,q.take m,rfl,M,hX.out N,t,iO h6 Q,fun o A=>?_⟩;obtain⟨vs,S,u⟩:=hk o A;have k:o<m:=Nat.lt_of_lt_of_le (iP A) h2;obtain⟨x,hx,T⟩:=KM h7 o _ (getElem?_eq_getElem (by rw[z];exact k));obtain⟨x0,y,rfl⟩:=Ue m H hx;rw[getElem?_take,if_pos k,S]at y;cases y;exact⟨_,getElem?_eq_getElem (by rw[z];exact k),VU T (by cases vs <;> first|rfl|exact u|cases u)⟩
 cases e with
 |normal=>exact s d
 |ret=>exact s d
 |exit id=>exact d.elim
 |goto l=>exact d.elim
 |panic b=>exact d.elim
 |outgrown=>exact d.elim
section
variable {P:Program} {kl:List Bool} {n:Nat} {B:Bs} {K:ep->List Ob->Prop} {E:ep} {H:List Ob} {ops:Array Oper}
def Rt(a b:List Nat)(H:List Ob)(o:Nat):Bool:=fH a H o&&!pO b o
def Tq(c a:List Nat):Nat->List Nat->Bool
 |_,[]=>true
 |j,i::b=>(bif pO c j then pO a i else true)&&Tq c a (j+1) b
def Bp(a:List Bool):List Nat->Bool
 |[]=>true
 |i::l=>!eE a i&&Bp a l
end
section
variable {P:Program} {kl:List Bool} {n:Nat} {B:Bs} {K:ep->List Ob->Prop} {E:ep} {H:List Ob} {ops:Array Oper}
end
section
variable {P:Program} {kl:List Bool} {n:Nat} {B:Bs} {K:ep->List Ob->Prop} {E:ep} {H:List Ob} {ops:List Oper} {obs:List En} {l:Plan}
end
section
variable {P:Program} {kl:List Bool} {n:Nat} {B:Bs} {Q:Qt} {E:ep} {H:List Ob} {a:Act} {w:World}
theorem ed{id:Nat}{l:List Oper}(h:∀K:ep->List Ob->Prop,(∀E H,Q .normal E H->K E H)->(∀E H b c,kH kl E H b c->K b c->K E H)->ft P kl n B l.toArray K (ff P kl n l l ⟨E,H,True⟩)):Wp P kl n B (.region id l.toArray false) Q E H:=by
 let K:ep->List Ob->Prop:=fun E H=>B.G0.length=kl.length->∀a w,Rel (cx P kl n B) E H a w->∃b c,Q .normal b c/\Rel (cx P kl n B) b c a w;have j:=dG (id:=id) (Q:=zF K Q) (h K (fun E H i _ a w d=>⟨E,H,i,d⟩) (fun E H b c k m f a w d=>m f a w (Rel.cut f d k)));intro f a w d;refine wp_mono (j f a w d) ?_;intro e o p ⟨b,c,i,g⟩;cases e <;> first|exact i f o p g|exact⟨b,c,i,g⟩
attribute [go_sem] mf pO Rt Tq Bp
end
end Go.Vc
namespace Go.Proofs
open Go.Shelf Go.RowKit
variable {P:Program} {ρ:Ren}
set_option maxHeartbeats 2000000 in
set_option maxRecDepth 1000000 in
theorem Any.grow_row(L:Lays.n241 P ρ)(X:Builder.Extra P ρ)(b n l c:Nat)(a:Option Addr)(cs:List Value)(w:World)
  (h:w.heap[b]?=some (.cells #[.pointer (some ⟨b,0,none⟩),.slice a l c] (ρ.t 72) (0,0)))
  (D:cs.length=l) (R:∀v∈cs,v.oneCell'=true)
  (r:l=0∨∃g k T A,a=some ⟨g,0,none⟩/\w.heap[g]?=some (.cells k T A)/\k.toList.take l=cs)
  (s:2*c+n<=281474976710656) (S:l<=c) :
  Calls P (ρ.f 241) #[.pointer (some ⟨b,0,none⟩),.int .i64 n] w fun e m=>e=.returned (.tuple #[])/\∃u:Array Value,m.os=w.os/\m.tape=w.tape/\m.output=w.output /\
   2*c+n<=u.size/\u.size<=maxLen/\u.toList.take l=cs/\m.heap.size=w.heap.size+1/\(∀i,i<w.heap.size->i≠b->m.heap[i]?=w.heap[i]?) /\
   m.heap[w.heap.size]?=some (.cells u (ρ.t 5) (0,0))/\m.heap[b]?=some (.cells #[.pointer (some ⟨b,0,none⟩),.slice (some ⟨w.heap.size,0,none⟩) l u.size] (ρ.t 72) (0,0)):=by
 obtain⟨d,x,U,y⟩:=Lib.run_makeNoZero (P:=P) w.drew #[(ρ.t 3)] (ρ.t 37) (ρ.t 5) L.t37 (2*c+n) s;have N:IntKind.i64.wrap (IntKind.i64.wrap (2*(c:Int))+(n:Int))=((2*c+n:Nat):Int):=by rw[IntKind.wrap_i64,IntKind.wrap_i64];omega
 have E:(callFunc (ρ.f 277) #[.int .i64 (IntKind.i64.wrap (IntKind.i64.wrap (2*(c:Int))+(n:Int)))]).run P w.drew=.ok (.value (.slice (some ⟨w.drew.heap.size,0,none⟩) (2*c+n) d.size)) (w.drew.drew.drew.alloc (.cells d (ρ.t 5))):=by rw[N,run_callFunc_extern L.f277 (by kernel_rfl) (by kernel_rfl) (by kernel_rfl) (e:=Extern.BytealgMakeNoZero.makeNoZero #[(ρ.t 3)] #[(ρ.t 37)]) (by kernel_rfl),x];rfl
 have c1:w.drew.cell? ⟨b,1,none⟩=some (.slice a l c):=by
  have:w.drew.heap[b]?=_:=h;rw[Lib.cell_of_heap this];rfl
 have o:b<w.heap.size:=by
  rcases Nat.lt_or_ge b w.heap.size with p|p
  .exact p
  .simp[Array.getElem?_eq_none p]at h
 have c2:(w.alloc (.cells d (ρ.t 5))).cell? ⟨b,1,none⟩=some (.slice a l c):=by
  have:(w.alloc (.cells d (ρ.t 5))).heap[b]?=_:=(Lib.alloc_old w _ b o).trans h;rw[Lib.cell_of_heap this];rfl
 have f2:(w.alloc (.cells d (ρ.t 5))).frozen? ⟨b,1,none⟩=false :=
  Lib.frozen_of_heap ((Lib.alloc_old w _ b o).trans h) 1
 have B:(((w.alloc (.cells d (ρ.t 5))).drew.drew.drew).setRow w.heap.size (cs++d.toList.drop l).toArray).heap[b]?=some (.cells #[.pointer (some ⟨b,0,none⟩),.slice a l c] (ρ.t 72) (0,0)) :=
  (setRow_other _ _ _ _ (by omega)).trans ((Lib.alloc_old w _ b o).trans h)
 have V:(((w.alloc (.cells d (ρ.t 5))).drew.drew.drew).setRow w.heap.size (cs++d.toList.drop l).toArray).cell? ⟨b,1,none⟩=some (.slice a l c):=by rw[Lib.cell_of_heap B];rfl
 have f3:(((w.alloc (.cells d (ρ.t 5))).drew.drew.drew).setRow w.heap.size (cs++d.toList.drop l).toArray).frozen? ⟨b,1,none⟩=false:=Lib.frozen_of_heap B 1;clear N;have Y:l<=d.size:=by omega
 have Z:d.size<=maxLen:=y (by unfold maxLen;omega);have q:∀W:World,W.heap=(w.alloc (.cells d (ρ.t 5))).heap->(Builtin.copy_ #[(ρ.t 37),(ρ.t 37)] (ρ.t 3) #[.slice (some ⟨w.heap.size,0,none⟩) l d.size,.slice a l c]).run P W=.ok (goInt l) (W.setRow w.heap.size (cs++d.toList.drop l).toArray):=by
  intro W O;have Q:W.heap[w.heap.size]?=some (.cells d (ρ.t 5) (0,0)):=by rw[O];exact heap_alloc_new w _
  rcases r with h0|⟨g,k,T,A,rfl,z,F⟩
  .have G:cs=[]:=length_eq_zero_iff.1 (by omega);subst h0;subst G;rw[run_copy_none W (ρ.t 37) (ρ.t 37) (ρ.t 3) (ρ.t 5) _ _ 0 d.size 0 c L.t37 X.sizeByte rfl];simp only[nil_append,drop_zero,Array.toArray_toList];rw[setRow_self W w.heap.size d (ρ.t 5) (0,0) Q];rfl
  .have H:g<w.heap.size:=by
    rcases Nat.lt_or_ge g w.heap.size with p|p
    .exact p
    .simp[Array.getElem?_eq_none p]at z
   have I:W.heap[g]?=some (.cells k T A):=by rw[O];exact(Lib.alloc_old w _ g H).trans z
   have:=run_copy_row (P:=P) W (ρ.t 37) (ρ.t 37) (ρ.t 3) (ρ.t 5) w.heap.size 0 l d.size ⟨g,0,none⟩ l c d (ρ.t 5) cs L.t37 X.sizeByte Q (by rw[D];exact(Nat.min_self l).symm) (fun j v C=>?_) (by omega) R
   .rw[this,D];simp
   .rw[show(⟨g,0,none⟩:Addr).add j=⟨g,0+j,none⟩from by cases j <;> simp[Addr.add],cell_of_row W g (0+j) k T A I,Nat.zero_add];rw[<-F,getElem?_take]at C;split at C
    .rw[<-Array.getElem?_toList];exact C
    .cases C
 have J:=L.mixed;have t72:=L.t72;have a72:=L.a72;have z72:=L.z72;have v72:=L.v72;have u72:=run_underlying L.t72;have t70:=L.t70;have a70:=L.a70;have z70:=L.z70;have v70:=L.v70;have u70:=run_underlying L.t70;have t37:=L.t37;have a37:=L.a37;have z37:=L.z37;have v37:=L.v37;have u37:=run_underlying L.t37;have t3:=L.t3;have a3:=L.a3;have z3:=L.z3;have v3:=L.v3;have u3:=run_underlying L.t3;have t5:=X.t5;have a5:=X.a5;have z5:=X.z5;have v5:=X.v5;have u5:=run_underlying X.t5
 go_enter L.f241,Body.n241_ntmps ρ
 go_wp2
 go_region_o
 all_goals go_wp2
 all_goals rw[q ((w.alloc (.cells d (ρ.t 5))).drew.drew.drew) rfl]
 all_goals simp only[Result.andThen]
 all_goals rw[Oper.upon_value]
 all_goals go_wp2
 all_goals go_end0
 all_goals
  have K:(cs++d.toList.drop l).toArray.size=d.size:=by simp;omega
  have hsz:w.heap.size<(w.alloc (.cells d (ρ.t 5))).heap.size:=by rw[World.size_alloc];omega
  rw[setCell_eq_setRow _ b 1 _ _ _ _ B];refine⟨rfl,(cs++d.toList.drop l).toArray,rfl,rfl,rfl,by omega,by omega,by simp[<-D],?_,fun i hi M=>?_,?_,?_⟩
  .simp
  .rw[setRow_other _ _ _ _ M,setRow_other _ _ _ _ (by omega)];exact heap_alloc_old w _ hi
  .rw[setRow_other _ _ _ _ (by omega)];exact setRow_heap _ _ d _ _ _ (heap_alloc_new w _)
  .rw[setRow_heap _ _ _ _ _ _ B,K];rfl
end Go.Proofs
namespace Go.Proofs
open Go.Shelf Go.RowKit
variable {P:Program} {ρ:Ren}
set_option maxHeartbeats 2000000 in
set_option maxRecDepth 1000000 in
theorem Any.Grow_used(L:Lays.n165 P ρ)(X:Builder.Extra P ρ)(b n l c:Nat)(a:Option Addr)(cs:List Value)(x w:World)
  (Q:∀W:World,(W=x∨W=x.drew)->Calls P (ρ.f 240) #[.pointer (some ⟨b,0,none⟩)] W fun e d=>e=.returned (.tuple #[])/\d.heap=w.heap/\d.os=w.os/\d.tape=w.tape/\d.output=w.output)
  (y:w.heap[b]?=some (.cells #[.pointer (some ⟨b,0,none⟩),.slice a l c] (ρ.t 72) (0,0)))
  (R:cs.length=l) (S:∀v∈cs,v.oneCell'=true)
  (s:l=0∨∃g k T z,a=some ⟨g,0,none⟩/\w.heap[g]?=some (.cells k T z)/\k.toList.take l=cs)
  (hn:n<=274877906944) (E:l<=274877906944) (A:l<=c) (hc:c<=9223372036854775807) :
  Calls P (ρ.f 165) #[.pointer (some ⟨b,0,none⟩),.int .i64 n] x fun e d=>e=.returned (.tuple #[])/\d.os=w.os/\d.tape=w.tape/\d.output=w.output/\(∀i,i<w.heap.size->i≠b->d.heap[i]?=w.heap[i]?) /\
   (d.heap.size=w.heap.size/\d.heap[b]?=some (.cells #[.pointer (some ⟨b,0,none⟩),.slice a l c] (ρ.t 72) (0,0)) ∨
    ∃m:Array Value,l<=m.size/\0<m.size/\m.size<=maxLen/\m.toList.take l=cs/\d.heap.size=w.heap.size+1/\d.heap[w.heap.size]?=some (.cells m (ρ.t 5) (0,0)) /\
     d.heap[b]?=some (.cells #[.pointer (some ⟨b,0,none⟩),.slice (some ⟨w.heap.size,0,none⟩) l m.size] (ρ.t 72) (0,0))):=by
 have B:=L.mixed;have U:=L.t72;have V:=L.a72;have Y:=L.z72;have Z:=L.v72;have u72:=run_underlying L.t72;have t70:=L.t70;have a70:=L.a70;have z70:=L.z70;have v70:=L.v70;have u70:=run_underlying L.t70;have t37:=L.t37;have a37:=L.a37;have z37:=L.z37;have v37:=L.v37;have u37:=run_underlying L.t37;have t3:=L.t3;have a3:=L.a3;have z3:=L.z3;have v3:=L.v3;have u3:=run_underlying L.t3;have t9:=L.t9;have a9:=L.a9;have z9:=L.z9;have v9:=L.v9;have u9:=run_underlying L.t9;have t4:=L.t4;have a4:=L.a4;have z4:=L.z4;have v4:=L.v4;have u4:=run_underlying L.t4;have F:=L.t164;have G:=L.a164;have H:=L.z164;have I:=L.v164;have J:=run_underlying L.t164;have t5:=X.t5;have a5:=X.a5;have z5:=X.z5;have v5:=X.v5;have u5:=run_underlying X.t5;have K:∀args w,(callFunc (ρ.f 240) args).run P w=.ok (.enter (ρ.f 240) args) w:=enters_of L.f240 (by kernel_rfl) rfl;have M:∀args w,(callFunc (ρ.f 241) args).run P w=.ok (.enter (ρ.f 241) args) w:=enters_of L.f241 (by kernel_rfl) rfl
 go_enter L.f165,Body.n165_ntmps ρ
 go_wp2_with (go_at_fn (ρ.f 240);refine(Q _ (by first|exact .inl rfl|exact .inr rfl)).mono ?_;rintro e p ⟨rfl,j,N,O,o⟩)
 have q:p.heap[b]?=some (.cells #[.pointer (some ⟨b,0,none⟩),.slice a l c] (ρ.t 72) (0,0)):=by rw[j];exact y
 have c1:p.cell? ⟨b,1,none⟩=some (.slice a l c):=by rw[Lib.cell_of_heap q];rfl
 have c1':p.drew.cell? ⟨b,1,none⟩=some (.slice a l c):=c1
 go_region_o
 have r:c<l+n->∀W:World,(W=p.drew∨W=p.drew.drew)->Calls P (ρ.f 241) #[.pointer (some ⟨b,0,none⟩),.int .i64 n] W _:=fun hlt W u=>Any.grow_row { L with } X b n l c a cs W (by rcases u with rfl|rfl <;> exact q) R S (by
  rcases s with h|⟨g,k,T,z,h2,h3,h4⟩
  .exact .inl h
  .exact .inr ⟨g,k,T,z,h2,by rcases u with rfl|rfl <;> exact(congrArg (fun h:Array Obj=>h[g]?) j).trans h3,h4⟩) (by omega) A
 go_wp2_with (go_at_fn (ρ.f 241);refine(r (by omega) _ (by first|exact .inl rfl|exact .inr rfl)).mono ?_;rintro e w2 ⟨rfl,m,q1,q2,q3,q4,q5,q6,q7,q8,q9,C⟩)
 .go_end0
  have u:(p.drew).heap=w.heap:=j;refine⟨rfl,q1.trans N,q2.trans O,q3.trans o,fun i hi D=>?_,.inr ⟨m,by omega,by omega,q5,q6,?_,?_,?_⟩⟩
  .rw[q8 i (by first|exact u ▸ hi|exact(show(p.drew.drew).heap=w.heap from j) ▸ hi) D];exact congrArg (fun h:Array Obj=>h[i]?) j
  .rw[q7];exact congrArg (fun h:Array Obj=>h.size+1) j
  .rw[<-j];exact q9
  .rw[<-j];exact C
 .go_end0
  exact⟨rfl,N,O,o,fun i _ _=>congrArg (fun h:Array Obj=>h[i]?) j,.inl ⟨congrArg Array.size j,q⟩⟩
theorem Any.Grow(L:Lays.n165 P ρ)(X:Builder.Extra P ρ)(b n l c:Nat)(a:Option Addr)(cs:List Value)(p:Value)(w:World)
  (N:p=.pointer none∨p=.pointer (some ⟨b,0,none⟩))
  (j:w.heap[b]?=some (.cells #[p,.slice a l c] (ρ.t 72) (0,0)))
  (H:cs.length=l) (D:∀v∈cs,v.oneCell'=true)
  (m:l=0∨∃g d T x,a=some ⟨g,0,none⟩/\g≠b/\w.heap[g]?=some (.cells d T x)/\d.toList.take l=cs)
  (I:n<=274877906944) (o:l<=274877906944) (y:l<=c) (J:c<=9223372036854775807) :
  Calls P (ρ.f 165) #[.pointer (some ⟨b,0,none⟩),.int .i64 n] w fun e w'=>e=.returned (.tuple #[])/\w'.os=w.os/\w'.tape=w.tape/\w'.output=w.output/\(∀i,i<w.heap.size->i≠b->w'.heap[i]?=w.heap[i]?) /\
   (w'.heap.size=w.heap.size/\w'.heap[b]?=some (.cells #[.pointer (some ⟨b,0,none⟩),.slice a l c] (ρ.t 72) (0,0)) ∨
    ∃s:Array Value,l<=s.size/\0<s.size/\s.size<=maxLen/\s.toList.take l=cs/\w'.heap.size=w.heap.size+1/\w'.heap[w.heap.size]?=some (.cells s (ρ.t 5) (0,0)) /\
     w'.heap[b]?=some (.cells #[.pointer (some ⟨b,0,none⟩),.slice (some ⟨w.heap.size,0,none⟩) l s.size] (ρ.t 72) (0,0))):=by
 rcases N with rfl|rfl
 .have q:w.setCell ⟨b,0,none⟩ (.pointer (some ⟨b,0,none⟩))=w.setRow b #[.pointer (some ⟨b,0,none⟩),.slice a l c]:=by rw[setCell_eq_setRow w b 0 _ _ _ _ j];rfl
  have F:(w.setCell ⟨b,0,none⟩ (.pointer (some ⟨b,0,none⟩))).heap[b]?=some (.cells #[.pointer (some ⟨b,0,none⟩),.slice a l c] (ρ.t 72) (0,0)):=by rw[q];exact setRow_heap _ _ _ _ _ _ j
  have K:∀i,i≠b->(w.setCell ⟨b,0,none⟩ (.pointer (some ⟨b,0,none⟩))).heap[i]?=w.heap[i]?:=fun i hi=>by rw[q];exact setRow_other _ _ _ _ hi
  have G:(w.setCell ⟨b,0,none⟩ (.pointer (some ⟨b,0,none⟩))).heap.size=w.heap.size:=by rw[q];exact setRow_size _ _ _
  refine(Any.Grow_used L X b n l c a cs w (w.setCell ⟨b,0,none⟩ (.pointer (some ⟨b,0,none⟩))) ?_ F H D ?_ I o y J).mono ?_
  .intro W z;have r:W.heap=w.heap:=by rcases z with rfl|rfl <;> rfl
   have k:W.heap[b]?=some (.cells #[.pointer none,.slice a l c] (ρ.t 72) (0,0)):=by rw[r];exact j
   refine(Any.Builder_copyCheck_fresh { L with } X.toX72 b W (by rw[Lib.cell_of_heap k];rfl) (by simp[World.shape?,k]) (Lib.frozen_of_heap k 0)).mono ?_;rintro e w' ⟨rfl,rfl⟩;rcases z with rfl|rfl <;> exact⟨rfl,rfl,rfl,rfl,rfl⟩
  .rcases m with h|⟨g,d,T,x,A,E,B,u⟩
   .exact .inl h
   .exact .inr ⟨g,d,T,x,A,(K g E).trans B,u⟩
  .rintro e w' ⟨D,A,E,B,u,M⟩;rw[G]at u M;exact⟨D,A,E,B,fun i hi C=>(u i hi C).trans (K i C),M⟩
 .refine(Any.Grow_used L X b n l c a cs w w ?_ j H D ?_ I o y J).mono fun e w' h=>h
  .intro W z;have r:W.heap=w.heap:=by rcases z with rfl|rfl <;> rfl
   have k:W.heap[b]?=some (.cells #[.pointer (some ⟨b,0,none⟩),.slice a l c] (ρ.t 72) (0,0)):=by rw[r];exact j
   refine(Any.Builder_copyCheck_used { L with } X.toX72 b W (by rw[Lib.cell_of_heap k];rfl)).mono ?_;rintro e w' ⟨rfl,rfl⟩;rcases z with rfl|rfl <;> exact⟨rfl,rfl,rfl,rfl,rfl⟩
  .rcases m with h|⟨g,d,T,x,A,E,B,u⟩
   .exact .inl h
   .exact .inr ⟨g,d,T,x,A,B,u⟩
end Go.Proofs
namespace Go.Vc
open Go.Proofs Go.Shelf
variable [Tabs] {P:Program} {ρ:Ren}
theorem sM(a:List UInt8):∀v∈a.map me,v.oneCell'=true:=by intro v b;obtain⟨x,_,rfl⟩:=mem_map.1 b;rfl
theorem Does.grow(L:Lays.n165 P ρ)(X:Builder.Extra P ρ)(n:Nat)(bs:List UInt8)(hn:n<=274877906944)(J:¬ Tabs.mono:=by exact fun h=>h) :
  Does P (ρ.f 165) [.ptr 0 0,.p (.i .i64 n)] [.cells (ρ.t 72) [.np 0,.buf 1],.sb (ρ.t 5) bs] (fun r Y=>r=.tup []/\Y=[.cells (ρ.t 72) [.np 0,.buf 1],.sb (ρ.t 5) bs]):=by
 refine⟨⟨_,L.f165,by kernel_rfl,by kernel_rfl⟩,fun K G w vals I W=>?_⟩;simp only[VRs,VR,DR]at W;obtain⟨c0,r0,rfl,⟨g0,b,j,d,rfl⟩,c1,r1,rfl,⟨rfl,Z⟩,rfl⟩:=W;obtain⟨b',cs,q1,q2,q3⟩:=I.ob 0 g0 _ j rfl;obtain rfl:b=b':=Option.some.inj (d.symm.trans q1);simp only[VRs,VR]at q3;obtain⟨p,rr,rfl,hp,sv,rr',rfl,⟨g1,k,rfl,a,l,c,q⟩,rfl⟩:=q3;have O:p=.pointer none∨p=.pointer (some ⟨b,0,none⟩):=by
  rcases hp with h|⟨g,b2,h1,h2,h3⟩
  .exact .inl h
  .rw[j]at h1;cases h1;rw[d]at h2;cases h2;exact .inr h3
 obtain⟨y,hh⟩:=I.ob 1 g1 _ k rfl;have s:bs.length=l/\l<=c/\c<=9223372036854775807/\(l=0∨∃g u T Q,a=some ⟨g,0,none⟩/\g≠b/\w.heap[g]?=some (.cells u T Q)/\u.toList.take l=bs.map me):=by
  rcases hh with⟨D,rfl,_⟩|⟨gb,cap,u,Q,D,e2,e3,e4,e5,e6,e7,e8,e9⟩
  .rw[q]at D;cases D;exact⟨rfl,by omega,by omega,.inl rfl⟩
  .rw[q]at D;cases D;refine⟨rfl,e5,by simp only[maxLen]at e7;omega,.inr ⟨gb,u,_,Q,rfl,?_,e3,e9⟩⟩;rintro rfl;have:=I.inj 0 1 g0 g1 _ j k d e2;omega
 obtain⟨N,R,hc,s⟩:=s;have E:l<=274877906944:=by rw[<-N];exact y
 refine(Any.Grow L X b n l c a (bs.map me) p w O (by rw[q]at q2;exact q2) (by simpa using N) (sM bs) s hn E R hc).mono ?_;rintro e w' ⟨rfl,ho,ht,z,M,F⟩;have hl0:0<G.length:=(List.getElem?_eq_some_iff.1 j).1;have S:1<G.length:=(List.getElem?_eq_some_iff.1 k).1;rcases F with⟨v,U⟩|⟨o,x1,x2,x3,x4,v,x5,x6⟩
 .have A:∀i,i≠b->w'.heap[i]?=w.heap[i]?:=by
   intro i hi;rcases Nat.lt_or_ge i w.heap.size with h|h
   .exact M i h hi
   .rw[Array.getElem?_eq_none h,Array.getElem?_eq_none (by omega)]
  refine⟨.tuple #[],.tup [],_,K,G,rfl,⟨rfl,rfl⟩,Ext.modA _ j d ho ⟨ht,fun m=>(J m).elim⟩ z v A,I.modA j d v A (x:=.cells (ρ.t 72) [.np 0,.buf 1]) ?_,?_,?_⟩
  .refine⟨b,[.pointer (some ⟨b,0,none⟩),.slice a l c],d,U,?_⟩;simp only[VRs,VR];exact⟨_,_,rfl,.inr ⟨g0,b,j,d,rfl⟩,_,_,rfl,⟨g1,k,q.symm,a,l,c,q⟩,rfl⟩
  .simp only[VR,VRs];exact⟨[],rfl,rfl⟩
  .exact KV _
 .have H:(G.set 1 ⟨some w.heap.size,.slice (some ⟨w.heap.size,0,none⟩) l o.size,[]⟩)[0]?=some g0:=by rw[getElem?_set_ne (by omega)];exact j
  have V:(G.set 1 ⟨some w.heap.size,.slice (some ⟨w.heap.size,0,none⟩) l o.size,[]⟩)[1]?=some ⟨some w.heap.size,.slice (some ⟨w.heap.size,0,none⟩) l o.size,[]⟩:=getElem?_set_self S;have hblt:=(I.gb 0 g0 b j d).1;have s1:=I.modB k (w':=w.alloc (.cells o (ρ.t 5))) (g1:=⟨some w.heap.size,.slice (some ⟨w.heap.size,0,none⟩) l o.size,[]⟩) (x:=.sb (ρ.t 5) bs) (by rw[World.size_alloc];omega) (fun i hi _=>heap_alloc_old w _ hi) (fun i hi=>by obtain rfl:=xB hi;rw[World.size_alloc];exact⟨by omega,.inr (Nat.le_refl _)⟩) ⟨y,.inr ⟨w.heap.size,o.size,o,(0,0),by rw[N],rfl,heap_alloc_new w _,.inl rfl,by omega,x2,x3,rfl,by rw[N];exact x4⟩⟩;have D:=Ext.modB (K:=K) (kp:=eE (kinds [.cells (ρ.t 72) [.np 0,.buf 1],.sb (ρ.t 5) bs])) (w:=w) (w':=w.alloc (.cells o (ρ.t 5))) k (g1:=⟨some w.heap.size,.slice (some ⟨w.heap.size,0,none⟩) l o.size,[]⟩) rfl rfl ⟨rfl,fun _=>Nat.le_refl _⟩ rfl (by rw[World.size_alloc];omega) (fun i hi _=>heap_alloc_old w _ hi) (fun i hi=>by obtain rfl:=xB hi;exact .inr (Nat.le_refl _));have B:w'.heap.size=(w.alloc (.cells o (ρ.t 5))).heap.size:=by rw[World.size_alloc,v]
  have C:∀i,i≠b->w'.heap[i]?=(w.alloc (.cells o (ρ.t 5))).heap[i]?:=by
   intro i hi;rcases Nat.lt_trichotomy i w.heap.size with h|h|h
   .rw[heap_alloc_old w _ h];exact M i h hi
   .subst h;rw[heap_alloc_new w _];exact x5
   .rw[Array.getElem?_eq_none (by omega),Array.getElem?_eq_none (by rw[World.size_alloc];omega)]
  have s2:=s1.modA H d (w':=w') B C (x:=.cells (ρ.t 72) [.np 0,.buf 1]) (by
   refine⟨b,[.pointer (some ⟨b,0,none⟩),.slice (some ⟨w.heap.size,0,none⟩) l o.size],d,x6,?_⟩;simp only[VRs,VR];exact⟨_,_,rfl,.inr ⟨g0,b,H,d,rfl⟩,_,_,rfl,⟨_,V,rfl,_,_,_,rfl⟩,rfl⟩)
  refine⟨.tuple #[],.tup [],_,K,_,rfl,⟨rfl,rfl⟩,D.trans (Ext.modA _ H d ho ⟨ht,fun m=>(J m).elim⟩ z B C),s2,?_,KV _⟩;simp only[VR,VRs];exact⟨[],rfl,rfl⟩
open Go.Proofs Go.Shelf
section
variable {P:Program} {ρ:Ren}
theorem mC{K:Nat->Prop}{h:Array Obj}:∀{l:List (List UInt8)} {c:List Value},DRss K h 1 c (l.map fun x=>[Dt.s x])->c=l.map encStr/\∀x∈l,x.length<=eC
 |[],c,H=>by simp only[map_nil,DRss]at H;subst H;exact⟨rfl,by simp⟩
 |x::l,c,H=>by
  simp only[map_cons,DRss]at H;obtain⟨a,b,rfl,_,e,f⟩:=H;simp only[DRs,DR]at e;obtain⟨v,g,rfl,⟨rfl,i⟩,rfl⟩:=e;obtain⟨rfl,j⟩:=mC f;refine⟨rfl,fun y d=>?_⟩;rcases mem_cons.1 d with rfl|d
  .exact i
  .exact j y d
theorem qp{K:Nat->Prop}{h:Array Obj}:∀{l:List (List UInt8)},(∀x∈l,x.length<=eC)->DRss K h 1 (l.map encStr) (l.map fun x=>[Dt.s x])
 |[],_=>by simp only[map_nil,DRss]
 |x::l,a=>by simp only[map_cons,DRss,DRs,DR];exact⟨[encStr x],l.map encStr,rfl,rfl,⟨_,[],rfl,⟨rfl,a x (by simp)⟩,rfl⟩,qp fun y b=>a y (by simp[b])⟩
theorem Does.sortS(L:SlLaysM.n6 P ρ)(hc:Ld P (ρ.f 6))(T:TypeId)(l:List (List UInt8)) :
  Does P (ρ.f 6) [.buf 0] [.fx T 1 (l.map fun x=>[.s x])] (fun r Y=>r=.tup []/\Y=[.fx T 1 ((Vc.sortS l).map fun x=>[.s x])]):=by
 refine⟨hc,fun K G w vals E V=>?_⟩;simp only[VRs,VR]at V;obtain⟨c0,r0,rfl,⟨g,v,rfl,a0,n0,W,X⟩,rfl⟩:=V;obtain⟨d,xs,M,Z⟩:=E.ob 0 g _ v rfl;obtain⟨rfl,N⟩:=mC M;simp only[length_map]at d Z;have z:G.set 0 g=G:=by
  apply ext_getElem?;intro i;by_cases e:i=0
  .subst e;rw[getElem?_set_self (List.getElem?_eq_some_iff.1 v).1,v]
  .rw[getElem?_set_ne (Ne.symm e)]
 rcases Z with⟨⟨a,F⟩,H,A⟩|⟨b,p,c,I,F,H,A,h4,h5,h6,h7,h8⟩
 .have O:l=[]:=by simpa using H
  subst O;rw[F];refine(AnyM.slices_Sort_string_none L a 0 w).mono ?_;rintro e w' ⟨rfl,rfl⟩;refine⟨.tuple #[],.tup [],_,K,G,rfl,⟨rfl,rfl⟩,Ext.refl _ _ _ _,by simpa [Vc.sortS]using E,?_,by simpa [Vc.sortS]using KV [.fx T 1 (([]:List (List UInt8)).map fun x=>[Dt.s x])]⟩;simp only[VR,VRs];exact⟨[],rfl,rfl⟩
 .have hb:b<w.heap.size:=(Array.getElem?_eq_some_iff.1 A).1;have hcs:p<=c.size:=by simpa using h7
  have q:∀j,j<l.length->c[j]?=some (encStr l[j]!):=by
   intro j J;have:(c.toList.take (l.length*1))[j]?=(l.map encStr)[j]?:=by rw[h8]
   rw[getElem?_take,if_pos (by omega),Array.getElem?_toList,getElem?_map,getElem?_eq_getElem J]at this;rw[this];simp[J]
  have hH:Sort.Holds encStr w b 0 l.toArray:=by
   intro j J;have Q:j<l.length:=by simpa using J
   refine⟨?_,?_⟩
   .rw[Nat.zero_add,cell_of_row w b j c T I A,q j Q];simp
   .have:=h4.out j (by omega);obtain⟨f1,f2⟩:=I;simp only[World.frozen?,A,Nat.zero_add]at this|-;simpa using this
  rw[F];refine(AnyM.slices_Sort_string L b 0 p l w hH hb (by simp only[eC]at d;omega)).mono ?_;rintro e w' ⟨rfl,y,k,rfl⟩;have t:=Zn l;have m:∀i,i<w.heap.size->(Sort.grow (Sort.putRow encStr (Sort.ahead w y) b 0 (Vc.sortS l).toArray) k).heap[i]?=if b=i then(w.heap[i]?).map (Sort.onCells (Sort.putCells encStr 0 (Vc.sortS l).toArray))else w.heap[i]?:=by
   intro i hi;show(((w.heap.modify b (Sort.onCells (Sort.putCells encStr 0 (Vc.sortS l).toArray)))++k):Array Obj)[i]?=_;rw[Array.getElem?_append_left (by simpa using hi),Array.getElem?_modify]
  have B:(Sort.grow (Sort.putRow encStr (Sort.ahead w y) b 0 (Vc.sortS l).toArray) k).heap[b]?=some (.cells (Sort.putCells encStr 0 (Vc.sortS l).toArray c) T I):=by rw[m b hb,if_pos rfl,A];rfl
  have R:∀i,i<w.heap.size->g.blk≠some i->(Sort.grow (Sort.putRow encStr (Sort.ahead w y) b 0 (Vc.sortS l).toArray) k).heap[i]?=w.heap[i]?:=by intro i hi S;rw[m i hi,if_neg (fun e=>S (by rw[H,e]))]
  have C:w.heap.size<=(Sort.grow (Sort.putRow encStr (Sort.ahead w y) b 0 (Vc.sortS l).toArray) k).heap.size:=by
   show w.heap.size<=((w.heap.modify b _)++k:Array Obj).size;simp
  have D:(Sort.putCells encStr 0 (Vc.sortS l).toArray c).size=c.size:=by simp[Sort.putCells]
  have u:(Sort.putCells encStr 0 (Vc.sortS l).toArray c).toList.take ((Vc.sortS l).length*1)=(Vc.sortS l).map encStr:=by
   apply ext_getElem?;intro i;rw[getElem?_take,getElem?_map];by_cases hi:i<(Vc.sortS l).length
   .rw[if_pos (by omega),Array.getElem?_toList];have:i<c.size:=by omega
    simp[Sort.putCells,this,hi]
   .rw[if_neg (by omega),getElem?_eq_none (by omega)];rfl
  have U:ObR K (Sort.grow (Sort.putRow encStr (Sort.ahead w y) b 0 (Vc.sortS l).toArray) k).heap (G.set 0 g) g (.fx T 1 ((Vc.sortS l).map fun x=>[.s x])):=by refine⟨by simpa [t]using d,_,qp (fun x U=>N x (by simpa [Vc.sortS]using U)),.inr ⟨b,p,_,I,by rw[F];simp[t],H,B,by rw[D];exact h4,by simpa [t]using h5,h6,by rw[D];exact h7,by simpa using u⟩⟩
  have n:=fun(i:Nat) (hi:i<w.heap.size) (h:¬ own g i)=>R i hi fun e=>h (.inl e);have s1:=E.modB v (g1:=g) C n (fun i hi=>⟨by have:=(E.gbo 0 g i v hi).1;omega,.inl hi⟩) U;rw[z]at s1;refine⟨.tuple #[],.tup [],_,K,G,rfl,⟨rfl,rfl⟩,?_,s1,?_,fun o ho=>?_⟩
  .have e1:=Ext.modB (K:=K) (w:=w) (kp:=fun _=>false) (w':=Sort.grow (Sort.putRow encStr (Sort.ahead w y) b 0 (Vc.sortS l).toArray) k) v rfl rfl ⟨rfl,fun _=>Nat.le_add_right _ _⟩ rfl C n (g1:=g) (fun i hi=>.inl hi);rw[z]at e1;exact { e1 with gsame:=fun _ _ _ h0=>h0 }
  .simp only[VR,VRs];exact⟨[],rfl,rfl⟩
  .cases o with
   |zero=>exact⟨_,rfl,rfl⟩
   |succ o=>simp[kinds,eE]at ho
end
open Go.Proofs
theorem Mz:∀a:List UInt8,eU a a=0
 |[]=>by simp[eU,Lib.compareBytes]
 |x::a=>by have:=Mz a;simp only[eU,Lib.compareBytes]at this|-;rw[if_neg (by simp),if_neg (by simp)];exact this
theorem TW:∀a b:List UInt8,eU b a=- eU a b
 |[],[]=>by simp[eU,Lib.compareBytes]
 |[],_::_=>by simp[eU,Lib.compareBytes]
 |_::_,[]=>by simp[eU,Lib.compareBytes]
 |x::a,y::b=>by
  have:=TW a b;simp only[eU,Lib.compareBytes]at this|-;by_cases c:x<y
  .rw[if_pos c,if_neg (UInt8.lt_asymm c),if_pos c];rfl
  .by_cases d:y<x
   .rw[if_pos d,if_neg c,if_pos d]
   .rw[if_neg d,if_neg c,if_neg c,if_neg d];exact this
theorem Le:∀{a b:List UInt8},eU a b=0->a=b
 |[],[],_=>rfl
 |[],_::_,h=>by simp[eU,Lib.compareBytes]at h
 |_::_,[],h=>by simp[eU,Lib.compareBytes]at h
 |x::a,y::b,h=>by
  simp only[eU,Lib.compareBytes]at h;by_cases c:x<y
  .rw[if_pos c]at h;cases h
  .by_cases d:y<x
   .rw[if_neg c,if_pos d]at h;cases h
   .rw[if_neg c,if_neg d]at h;rw[Le (a:=a) (b:=b) h,UInt8.le_antisymm (UInt8.not_lt.1 d) (UInt8.not_lt.1 c)]
theorem V5:∀{a b c:List UInt8},eU a b<=0->eU b c<=0->eU a c<=0
 |[],_,[],_,_=>by simp[eU,Lib.compareBytes]
 |[],_,_::_,_,_=>by simp[eU,Lib.compareBytes]
 |_::_,[],_,h,_=>by simp[eU,Lib.compareBytes]at h
 |_::_,_::_,[],_,h=>by simp[eU,Lib.compareBytes]at h
 |x::a,y::b,z::c,h,d=>by
  have i:=@V5 a b c;simp only[eU,Lib.compareBytes]at h d i|-;by_cases g:x<y
  .by_cases e:y<z
   .rw[if_pos (UInt8.lt_trans g e)];decide
   .by_cases f:z<y
    .rw[if_neg e,if_pos f]at d;simp at d
    .obtain rfl:=UInt8.le_antisymm (UInt8.not_lt.1 f) (UInt8.not_lt.1 e);rw[if_pos g];decide
  .by_cases e:y<x
   .rw[if_neg g,if_pos e]at h;simp at h
   .obtain rfl:=UInt8.le_antisymm (UInt8.not_lt.1 e) (UInt8.not_lt.1 g);rw[if_neg g,if_neg e]at h;by_cases f:x<z
    .rw[if_pos f];decide
    .by_cases j:z<x
     .rw[if_neg f,if_pos j]at d;simp at d
     .rw[if_neg f,if_neg j]at d|-;exact i h d
def rk(k:Int):Int:=if k=5 then 2 else if k=6 then 3 else 1
theorem Bg(k:Int):1<=rk k/\rk k<=3:=by
 unfold rk;split
 .omega
 .split <;> omega
def gS(a:List UInt8)(k:Int)(p:List UInt8)(a':List UInt8)(k':Int)(p':List UInt8):Int:=if eU a a'≠0 then eU a a' else if rk k≠rk k' then rk k-rk k' else eU p p'
theorem AK(a:List UInt8)(k:Int)(p:List UInt8)(a':List UInt8)(k':Int)(p':List UInt8):gS a' k' p' a k p=- gS a k p a' k' p':=by
 unfold gS;have d:=TW a a';have f:=TW p p';by_cases e:eU a a'=0
 .have c:eU a' a=0:=by omega
  rw[if_neg (Decidable.not_not.2 e),if_neg (Decidable.not_not.2 c)];by_cases b:rk k=rk k'
  .rw[if_neg (Decidable.not_not.2 b),if_neg (Decidable.not_not.2 b.symm)];exact f
  .rw[if_pos b,if_pos (Ne.symm b)];omega
 .have c:eU a' a≠0:=by omega
  rw[if_pos e,if_pos c];exact d
theorem V4{a:List UInt8}{k:Int}{p:List UInt8}{a':List UInt8}{k':Int}{p':List UInt8}(h:gS a k p a' k' p'=0):a=a'/\rk k=rk k'/\p=p':=by
 unfold gS at h;by_cases e:eU a a'=0
 .rw[if_neg (by omega)]at h;by_cases b:rk k=rk k'
  .rw[if_neg (by omega)]at h;exact⟨Le e,b,Le h⟩
  .rw[if_pos (by omega)]at h;omega
 .rw[if_pos (by omega)]at h;omega
theorem sE(a:List UInt8)(k:Int)(p:List UInt8):gS a k p a k p=0:=by unfold gS;rw[if_neg (by rw[Mz];simp),if_neg (by simp),Mz]
theorem Uz{a:List UInt8}{k:Int}{p:List UInt8}{a':List UInt8}{k':Int}{p':List UInt8}{b:List UInt8}{j:Int}{q:List UInt8}(h:gS a k p a' k' p'<=0)(c:gS a' k' p' b j q<=0):gS a k p b j q<=0:=by
 unfold gS at *;by_cases e:eU a a'=0
 .obtain rfl:=Le e;rw[if_neg (by omega)]at h;by_cases f:eU a b=0
  .rw[if_neg (by omega)]at c|-;by_cases i:rk k=rk k'
   .rw[if_neg (by omega)]at h;by_cases d:rk k'=rk j
    .rw[if_neg (by omega)]at c|-;exact V5 h c
    .rw[if_pos (by omega)]at c|-;omega
   .rw[if_pos (by omega)]at h;by_cases d:rk k'=rk j
    .rw[if_pos (by omega)];omega
    .rw[if_pos (by omega)]at c;rw[if_pos (by omega)];omega
  .rw[if_pos (by omega)]at c|-;exact c
 .rw[if_pos (by omega)]at h;by_cases f:eU a' b=0
  .obtain rfl:=Le f;rw[if_pos (by omega)];exact h
  .rw[if_pos (by omega)]at c;have:=V5 h c;by_cases g:eU a b=0
   .obtain rfl:=Le g;have:=TW a a';omega
   .rw[if_pos (by omega)];exact this
section
variable {α:Type} (f:α->List UInt8) (g:α->Int) (h:α->List UInt8)
theorem uk:Go.Sort.SWO (ltOf fun x y=>gS (f x) (g x) (h x) (f y) (g y) (h y)) where
 irrefl x:=by simp[ltOf,sE]
 trans x y z d h2:=by
  simp only[ltOf,decide_eq_true_eq]at *;have e:=Uz (Int.le_of_lt d) (Int.le_of_lt h2);rcases Int.lt_or_eq_of_le e with c|c
  .exact c
  .obtain⟨i,l,m⟩:=V4 c;have n:=AK (f x) (g x) (h x) (f y) (g y) (h y);have:gS (f y) (g y) (h y) (f x) (g x) (h x)=gS (f y) (g y) (h y) (f z) (g z) (h z):=by unfold gS;rw[i,l,m]
   omega
 ntrans x y z d h2:=by simp only[ltOf,decide_eq_false_iff_not,Int.not_lt]at *;have o:=AK (f x) (g x) (h x) (f y) (g y) (h y);have r:=AK (f y) (g y) (h y) (f z) (g z) (h z);have s:=AK (f x) (g x) (h x) (f z) (g z) (h z);have:=Uz (a:=f z) (k:=g z) (p:=h z) (a':=f y) (k':=g y) (p':=h y) (b:=f x) (j:=g x) (q:=h x) (by omega) (by omega);omega
end
open Go.Proofs Go.Shelf Go.RowKit
def qo:Dt->Value
 |.b x=>.bool x
 |.i k n=>.int k n
 |.s x=>.string ⟨x.toArray⟩
 |_=>.bool false
def Vq:Dt->Bool
 |.b _=>true
 |.i _ _=>true
 |.s _=>true
 |_=>false
def Bh:Dt->Prop
 |.b _=>True
 |.i k n=>Fits k n
 |.s x=>x.length<=eC
 |_=>False
theorem TS{K:Nat->Prop}{h:Array Obj}:∀{d:Dt},Bh d->DR K h (qo d) d
 |.b _,_=>by simp only[DR,qo]
 |.i _ _,H=>by simp only[DR,qo];exact⟨trivial,H⟩
 |.s _,H=>by simp only[DR,qo];exact⟨trivial,H⟩
 |.l _,H|.a _,H|.r _,H=>H.elim
theorem TT{K:Nat->Prop}{h:Array Obj}{c:Value}:∀{d:Dt},Vq d=true->DR K h c d->c=qo d/\Bh d
 |.b _,_,H=>by simp only[DR]at H;exact⟨H,trivial⟩
 |.i _ _,_,H=>by simp only[DR]at H;exact H
 |.s _,_,H=>by simp only[DR]at H;exact H
 |.l _,H,_|.a _,H,_|.r _,H,_=>by cases H
theorem qb{K:Nat->Prop}{h:Array Obj}:∀{r:List Dt},(∀d∈r,Bh d)->DRs K h (r.map qo) r
 |[],_=>by simp[DRs]
 |d::r,H=>by simp only[map_cons,DRs];exact⟨_,_,rfl,TS (H d (by simp)),qb fun x a=>H x (by simp[a])⟩
theorem wV{K:Nat->Prop}{h:Array Obj}:∀{r:List Dt} {b:List Value},(∀d∈r,Vq d=true)->DRs K h b r->b=r.map qo/\∀d∈r,Bh d
 |[],b,_,H=>by simp only[DRs]at H;exact⟨H,fun d c=>by simp at c⟩
 |d::r,b,hs,H=>by
  simp only[DRs]at H;obtain⟨v,e,rfl,f,g⟩:=H;obtain⟨i,j⟩:=TT (hs d (by simp)) f;obtain⟨k,l⟩:=wV (fun x a=>hs x (by simp[a])) g;refine⟨by rw[i,k];rfl,fun x a=>?_⟩;rcases mem_cons.1 a with rfl|a
  .exact j
  .exact l x a
section
variable {α:Type} (e:α->List Dt) (k:Nat)
theorem rA{K:Nat->Prop}{h:Array Obj}(a:∀x,(e x).length=k):∀{l:List α},(∀x∈l,∀d∈e x,Bh d)->DRss K h k (l.map fun x=>(e x).map qo).flatten (l.map e)
 |[],_=>by simp[DRss]
 |x::l,H=>by simp only[map_cons,flatten_cons,DRss];exact⟨_,_,rfl,a x,qb (H x (by simp)),rA a fun y b=>H y (by simp[b])⟩
theorem rB{K:Nat->Prop}{h:Array Obj}(hs:∀x,∀d∈e x,Vq d=true):∀{l:List α} {c:List Value},DRss K h k c (l.map e)->c=(l.map fun x=>(e x).map qo).flatten/\∀x∈l,∀d∈e x,Bh d
 |[],c,H=>by simp only[map_nil,DRss]at H;exact⟨H,fun x g=>by simp at g⟩
 |x::l,c,H=>by
  simp only[map_cons,DRss]at H;obtain⟨a,b,rfl,_,i,j⟩:=H;obtain⟨m,n⟩:=wV (hs x) i;obtain⟨o,p⟩:=rB hs j;refine⟨by rw[m,o];rfl,fun y f=>?_⟩;rcases mem_cons.1 f with rfl|f
  .exact n
  .exact p y f
end
theorem nI{β:Type}{k:Nat}(a:0<k):∀(L:List (List β)) (t:Nat),(∀r∈L,r.length=k)->L.flatten[t]?=(L[t / k]?).bind fun r=>r[t % k]?
 |[],t,_=>by simp
 |r::L,t,h=>by
  have c:=h r (by simp);have d:=nI a L (t-k) fun x e=>h x (by simp[e]);rw[flatten_cons];by_cases b:t<k
  .rw[getElem?_append_left (by omega),Nat.div_eq_of_lt b,Nat.mod_eq_of_lt b];simp
  .rw[getElem?_append_right (by omega),c,d]
   have f:t / k=(t-k) / k+1:=by
    conv=>lhs;rw[show t=(t-k)+k by omega]
    exact Nat.add_div_right _ a
   have g:t % k=(t-k) % k:=by
    conv=>lhs;rw[show t=(t-k)+k by omega]
    exact Nat.add_mod_right _ _
   rw[f,g];simp
theorem YI{α:Type}[Inhabited α](a:α->List Value)(k:Nat)(e:∀x,(a x).length=k)(d:Array α):(Go.Sort.flatK a k d).toList=(d.toList.map a).flatten:=by
 have i:((d.toList.map a).flatten).length=d.size*k:=by
  have:∀l:List α,((l.map a).flatten).length=l.length*k:=by
   intro l;induction l with
   |nil=>simp
   |cons x l j=>simp only[map_cons,flatten_cons,length_append,e,j,length_cons];rw[Nat.add_mul];omega
  simpa using this d.toList
 apply ext_getElem?;intro t;by_cases f:t<d.size*k
 .have g:0<k:=by
   rcases Nat.eq_zero_or_pos k with h|h
   .subst h;omega
   .exact h
  have b:t / k<d.size:=(Nat.div_lt_iff_lt_mul g).2 f;have c:t % k<(a d[t / k]).length:=by rw[e];exact Nat.mod_lt _ g
  rw[nI g _ _ (fun r m=>by obtain⟨x,_,rfl⟩:=mem_map.1 m;exact e x),getElem?_map];have n:=Go.Sort.get_flatK a k d t f;have o:(Go.Sort.flatK a k d).toList[t]?=some ((Go.Sort.flatK a k d)[t]!):=by
   rw[Array.getElem?_toList];have:t<(Go.Sort.flatK a k d).size:=by simpa using f
   rw[Array.getElem?_eq_getElem this,getElem!_pos _ t this]
  rw[o,n];have p:d.toList[t / k]?=some d[t / k]:=by rw[Array.getElem?_toList,Array.getElem?_eq_getElem b]
  rw[p,getElem!_pos d _ b,getElem!_pos (a d[t / k]) (t % k) c];simp only[Option.map_some,Option.bind_some];rw[getElem?_eq_getElem c]
 .rw[getElem?_eq_none (by simp;omega),getElem?_eq_none (by omega)]
theorem vF{W w':World}(a:w'.os=W.os)(c:w'.tape=W.tape)(d:w'.output=W.output)(hs:W.heap.size<=w'.heap.size)(hb:∀b,b<W.heap.size->w'.heap[b]?=W.heap[b]?)(j:W.drawn<=w'.drawn) :
  ∃q os',w'=Go.Sort.grow (W.drewN q) os':=by
 refine⟨w'.drawn-W.drawn,w'.heap.extract W.heap.size w'.heap.size,?_⟩;have e:w'.heap=W.heap++w'.heap.extract W.heap.size w'.heap.size:=by
  apply Array.ext_getElem?;intro i;rcases Nat.lt_or_ge i W.heap.size with h|h
  .rw[Array.getElem?_append_left h,hb i h]
  .rw[Array.getElem?_append_right h];rcases Nat.lt_or_ge i w'.heap.size with f|f
   .rw[Array.getElem?_extract];simp only[Nat.min_self];rw[if_pos (by omega),show W.heap.size+(i-W.heap.size)=i by omega]
   .rw[Array.getElem?_eq_none f,Array.getElem?_eq_none (by simp;omega)]
 obtain⟨p,r,s,t,k⟩:=w';obtain⟨l,m,n,o,g⟩:=W;simp only at a c d e j;subst a;subst c;subst d;unfold Go.Sort.grow World.drewN;simp only[World.mk.injEq,true_and,and_true];exact⟨e,by omega⟩
section
theorem dV{α:Type}(Q:Unit->Tabs)(hq:(Q ()).mono)(htb:∀b,(Q ()).tab b=none)(hif:∀b,(Q ()).ifc b=false)(L:SlLaysF0.n6 P ρ)(hc:Ld P (ρ.f 6))(k:Nat)(aE:∀w,(isAgg (ρ.t 24)).run P w=.ok true w)(zE:∀w,(Go.sizeOf (ρ.t 24)).run P w=.ok k w)
  (e:α->List Dt) (hk:∀x,(e x).length=k) (hsc:∀x,∀d∈e x,Vq d=true) (cf:α->α->Int) (hO:Go.Sort.SWO (ltOf cf)) (g:Nat) (eg:∀args w,(callFunc g args).run P w=.ok (.enter g args) w)
  (hcmp:∀x y,@Does (Q ()) P g [.agg ((e x).map .p),.agg ((e y).map .p)] [] fun r X=>r=.p (.i .i64 (cf x y))/\X=[]) (T:TypeId) (l:List α) :
  Does P (ρ.f 6) [.buf 0,.fn g []] [.fx T k (l.map e)] fun r Y=>r=.tup []/\∃u:List α,u.Perm l/\u.Pairwise (fun x y=>¬ cf y x<0)/\Y=[.fx T k (u.map e)]:=by
 refine⟨hc,fun K G w vals hS hV=>?_⟩;simp only[VRs,VR]at hV;obtain⟨c0,r0,rfl,⟨D,hg,rfl,a0,n0,cap0,hsv0⟩,c1,r1,rfl,⟨cs,rfl,rfl⟩,rfl⟩:=hV;obtain⟨E,xs,hxs,hh⟩:=hS.ob 0 D _ hg rfl;obtain⟨hxe,W⟩:=rB e k hsc hxs;simp only[length_map]at E hh;have hg0:G.set 0 D=G:=by
  apply ext_getElem?;intro i;by_cases e:i=0
  .subst e;rw[getElem?_set_self (List.getElem?_eq_some_iff.1 hg).1,hg]
  .rw[getElem?_set_ne (Ne.symm e)]
 -- nothing to sort
 have H:l=[]->∀(p:Option Addr) (A:Nat),D.sv=.slice p 0 A->Calls P (ρ.f 6) [D.sv,Value.func (.func g) #[] ([]:List Value).toArray].toArray w fun e' w'=>∃c r X' K' G',e'=.returned c/\(r=Va.tup []/\∃u:List α,u.Perm l/\u.Pairwise (fun x y=>¬ cf y x<0)/\X'=[Ob.fx T k (u.map e)])/\Ext (eE (kinds [Ob.fx T k (l.map e)])) K G w K' G' w'/\St K' G' X' w'/\VR K' w'.heap G' c r/\jG (eE (kinds [Ob.fx T k (l.map e)])) X':=by
  intro hl p A hp;subst hl;rw[hp];refine(AnyF.slices_SortFunc_none L p A _ w).mono ?_;rintro e' w' ⟨rfl,rfl⟩;refine⟨.tuple #[],.tup [],_,K,G,rfl,⟨rfl,[],.refl _,.nil,rfl⟩,Ext.refl _ _ _ _,hS,?_,KV [Ob.fx T k (([]:List α).map e)]⟩;simp only[VR,VRs];exact⟨[],rfl,rfl⟩
 rcases hh with⟨⟨a,M⟩,N,Z⟩|⟨b,A,s,fr,M,N,Z,h4,h5,h6,h7,h8⟩
 .exact H (by simpa using N) a 0 M
 .by_cases hl0:l=[]
  .exact H hl0 _ A (by rw[M,hl0];rfl)
  have hb:b<w.heap.size:=(Array.getElem?_eq_some_iff.1 Z).1
  -- the elements that are right
  let β:={ x:α // ∀d∈e x,Bh d };have:∃x0,x0∈l:=exists_mem_of_ne_nil l hl0;obtain⟨x0,hx0⟩:=this;letI:Inhabited β:=⟨⟨x0,W x0 hx0⟩⟩;let q:β->List Value:=fun x=>(e x.1).map qo;let lb:List β:=l.attach.map fun x=>⟨x.1,W x.1 x.2⟩;have hlb:lb.map (·.1)=l:=by
   show(l.attach.map fun x=>(⟨x.1,W x.1 x.2⟩:β)).map (·.1)=l;rw[map_map];exact attach_map_subtype_val l
  have hlen:lb.length=l.length:=by show(l.attach.map _).length=_;simp
  have hke:∀x:β,(q x).length=k:=fun x=>by show((e x.1).map qo).length=k;rw[length_map,hk]
  have hone:∀x:β,∀v∈q x,v.oneCell'=true:=by
   intro x v hv;obtain⟨d,hd,rfl⟩:=mem_map.1 hv;have:=hsc x.1 d hd;cases d <;> first|rfl|cases this
  have O:∀l2:List β,(l2.map q).flatten=((l2.map (·.1)).map fun x=>(e x).map qo).flatten:=fun l2=>by rw[map_map];rfl
  have hflat:(Go.Sort.flatK q k lb.toArray).toList=xs:=by
   rw[YI q k hke,hxe];show(lb.map q).flatten=_;rw[O,hlb]
  have B:lb.toArray.size=l.length:=by simpa using hlen
  have hH:Go.Sort.HoldsK q k w b 0 lb.toArray:=by
   intro j R;rw[Go.Sort.size_flatK,B]at R;have hjc:j<s.size:=Nat.lt_of_lt_of_le R (Nat.le_trans (Nat.mul_le_mul_right k h5) h7);refine⟨?_,?_⟩
   .rw[Nat.zero_add,cell_of_row w b j s T fr Z];have e1:(s.toList.take (l.length*k))[j]?=(Go.Sort.flatK q k lb.toArray).toList[j]?:=by rw[h8,hflat]
    rw[getElem?_take,if_pos R,Array.getElem?_toList,Array.getElem?_toList]at e1;rw[e1,Array.getElem?_eq_getElem (by rw[Go.Sort.size_flatK,B];exact R),getElem!_pos _ j (by rw[Go.Sort.size_flatK,B];exact R)];rfl
   .have:=h4.out j hjc;obtain⟨f1,f2⟩:=fr;simp only[World.frozen?,Z,Nat.zero_add]at this|-;simpa using this
  let cfb:β->β->Int:=fun x y=>cf x.1 y.1;have hOb:Go.Sort.SWO (ltOf cfb):=⟨fun x=>hO.irrefl x.1,fun x y z=>hO.trans x.1 y.1 z.1,fun x y z=>hO.ntrans x.1 y.1 z.1⟩;have hcl:CmpLays P g ([]:List Value).toArray q k cfb b 0 lb.toArray.size w:=by
   intro m os dk hdk x y;have hSt:@St (Q ()) (fun _=>False) [] [] (sortWorldK q k w b 0 m dk os):=by
    refine @St.mk (Q ()) _ _ _ _ rfl (fun b h=>h.elim) (fun o g b h=>by simp at h) (fun o o' g g' b h=>by simp at h) (fun o g x h=>by simp at h) ⟨fun b k' u h=>?_,fun b h=>?_⟩
    .rw[htb b]at h;cases h
    .rw[hif b]at h;cases h
   have hVR:∀z:β,VR (fun _=>False) (sortWorldK q k w b 0 m dk os).heap [] (.agg (q z).toArray) (.agg ((e z.1).map .p)):=by
    intro z;simp only[VR];refine⟨q z,rfl,?_⟩;have:=qb (K:=fun _=>False) (h:=(sortWorldK q k w b 0 m dk os).heap) z.2;show VRs _ _ _ ((e z.1).map qo) ((e z.1).map .p);revert this;generalize e z.1=row;intro this;induction row with
    |nil=>simp[VRs]
    |cons d row ih =>
     simp only[map_cons,DRs,VRs,VR]at this|-;obtain⟨v,vs,M,N,Z⟩:=this;injection M with e1 e2;subst e1;subst e2;exact⟨_,_,rfl,N,ih Z⟩
   have hv:VRs (fun _=>False) (sortWorldK q k w b 0 m dk os).heap [] [.agg (q x).toArray,.agg (q y).toArray] [.agg ((e x.1).map .p),.agg ((e y.1).map .p)]:=by simp only[VRs];exact⟨_,_,rfl,hVR x,_,_,rfl,hVR y,rfl⟩
   refine((hcmp x.1 y.1).2 _ _ _ _ hSt hv).mono ?_;rintro e' w' ⟨c,r,X',K',G',rfl,⟨rfl,rfl⟩,hX,hS',hvr,_⟩;simp only[VR,DR]at hvr;obtain⟨rfl,_⟩:=hvr;obtain⟨x1,x2,x3,x4,_,_,_,_,_,x10⟩:=hX;refine⟨rfl,vF x1 x2.1 x3 x4 (fun b' hb'=>x10 b' hb' fun o D h=>by simp at h) (x2.2 hq)⟩
  rw[M];have I:=AnyQ.slices_SortFunc L k aE zE q hke hone cfb hOb g ([]:List Value).toArray b 0 A lb.toArray w eg hcl hH hb (by rw[B];simp only[eC]at E;omega);rw[B]at I;refine I.mono ?_;rintro e' w' ⟨rfl,d',n,os,hp,hso,rfl⟩;obtain⟨J,_,hpm⟩:=hp;rw[B]at J;have hperm:d'.toList.Perm lb:=by
   have M:d'.extract 0 l.length=d':=by rw[<-J];exact Array.extract_size
   have N:lb.toArray.extract 0 l.length=lb.toArray:=by rw[<-B];exact Array.extract_size
   rw[M,N]at hpm;simpa using hpm
  let u:List α:=d'.toList.map (·.1);have C:u.length=l.length:=by show(d'.toList.map _).length=_;simp[J]
  have hok':∀x∈u,∀d∈e x,Bh d:=fun x hx=>by obtain⟨y,_,rfl⟩:=mem_map.1 hx;exact y.2
  have hpl:u.Perm l:=by
   have:=hperm.map (·.1)
   rwa [hlb]at this
  have hpw:u.Pairwise (fun x y=>¬ cf y x<0):=by
   rw[pairwise_map,pairwise_iff_getElem];intro i j hi R hij;have:=hso i j (Nat.zero_le _) hij (by have h9:j<d'.toList.length:=R;rw[Array.length_toList,J]at h9;exact h9);rw[getElem!_pos d' i (by simpa using hi),getElem!_pos d' j (by simpa using R)]at this;simpa [ltOf]using this
  generalize hF:Go.Sort.flatK q k d'=F;have hFs:F.size=l.length*k:=by rw[<-hF,Go.Sort.size_flatK,J]
  have hFl:F.toList=(u.map fun x=>(e x).map qo).flatten:=by rw[<-hF,YI q k hke,O]
  have hput0:Go.Sort.putRowK q k (Go.Sort.ahead w n) b 0 d'=Go.Sort.putRow id (Go.Sort.ahead w n) b 0 F:=by unfold Go.Sort.putRowK;rw[hF]
  have hW:sortWorldK q k w b 0 n d' os=Go.Sort.grow (Go.Sort.putRow id (Go.Sort.ahead w n) b 0 F) os:=by unfold sortWorldK;rw[hput0]
  rw[hW];have S:∀i,i<w.heap.size->(Go.Sort.grow (Go.Sort.putRow id (Go.Sort.ahead w n) b 0 F) os).heap[i]?=if b=i then(w.heap[i]?).map (Go.Sort.onCells (Go.Sort.putCells id 0 F))else w.heap[i]?:=by
   intro i hi;show(((w.heap.modify b (Go.Sort.onCells (Go.Sort.putCells id 0 F)))++os):Array Obj)[i]?=_;rw[Array.getElem?_append_left (by simpa using hi),Array.getElem?_modify]
  have hput:(Go.Sort.grow (Go.Sort.putRow id (Go.Sort.ahead w n) b 0 F) os).heap[b]?=some (.cells (Go.Sort.putCells id 0 F s) T fr):=by rw[S b hb,if_pos rfl,Z];rfl
  have hfr:∀i,i<w.heap.size->D.blk≠some i->(Go.Sort.grow (Go.Sort.putRow id (Go.Sort.ahead w n) b 0 F) os).heap[i]?=w.heap[i]?:=by intro i hi hib;rw[S i hi,if_neg (fun e=>hib (by rw[N,e]))]
  have U:w.heap.size<=(Go.Sort.grow (Go.Sort.putRow id (Go.Sort.ahead w n) b 0 F) os).heap.size:=by
   show w.heap.size<=((w.heap.modify b _)++os:Array Obj).size;simp
  have hpc:(Go.Sort.putCells id 0 F s).size=s.size:=by simp[Go.Sort.putCells]
  have hcap:l.length*k<=s.size:=Nat.le_trans (Nat.mul_le_mul_right k h5) h7;have htake:(Go.Sort.putCells id 0 F s).toList.take (u.length*k)=F.toList:=by
   apply ext_getElem?;intro i;rw[getElem?_take,C];by_cases hi:i<l.length*k
   .rw[if_pos hi,Array.getElem?_toList,Array.getElem?_toList];have h9:i<s.size:=by omega
    have h10:i<F.size:=by omega
    simp[Go.Sort.putCells,h9,h10]
   .rw[if_neg hi,getElem?_eq_none (by simp;omega)]
  have hx:ObR K (Go.Sort.grow (Go.Sort.putRow id (Go.Sort.ahead w n) b 0 F) os).heap (G.set 0 D) D (.fx T k (u.map e)):=by refine⟨by simpa [C]using E,F.toList,by rw[hFl];exact rA e k hk hok',.inr ⟨b,A,_,fr,by rw[M];simp[C],N,hput,by rw[hpc];exact h4,by simpa [C]using h5,h6,by rw[hpc];exact h7,by rw[length_map];exact htake⟩⟩
  have V:=fun(i:Nat) (hi:i<w.heap.size) (h:¬ own D i)=>hfr i hi fun e=>h (.inl e);have s1:=hS.modB hg (g1:=D) U V (fun i hi=>⟨by have:=(hS.gbo 0 D i hg hi).1;omega,.inl hi⟩) hx;rw[hg0]at s1;refine⟨.tuple #[],.tup [],_,K,G,rfl,⟨rfl,u,hpl,hpw,rfl⟩,?_,s1,?_,fun o ho=>?_⟩
  .have e1:=Ext.modB (K:=K) (w:=w) (kp:=fun _=>false) (w':=Go.Sort.grow (Go.Sort.putRow id (Go.Sort.ahead w n) b 0 F) os) hg rfl rfl ⟨rfl,fun _=>Nat.le_add_right _ _⟩ rfl U V (g1:=D) (fun i hi=>.inl hi);rw[hg0]at e1;exact { e1 with gsame:=fun _ _ _ h0=>h0 }
  .simp only[VR,VRs];exact⟨[],rfl,rfl⟩
  .cases o with
   |zero=>exact⟨_,rfl,rfl⟩
   |succ o=>simp[kinds,eE]at ho
end
def fM:List (Dt×List Dt)->Dt->Nat
 |[],_=>0
 |p::a,d=>bif fC p.1 d then 0 else fM a d+1
def mE(a:List (Dt×List Dt))(d:Dt)(z:List Dt):List (Dt×List Dt):=fU a d (qd a d z)
def bE(b:List (Dt×List Dt))(a:List Nat)(c:Nat)(d:Dt):List Nat:=bif (gL b d).isSome then a else a++[c]
def cE(b:List (Dt×List Dt))(a:Nat)(d:Dt):Nat:=bif (gL b d).isSome then a else a+1
def x8(a:List (Dt×List Dt))(b:List Nat)(c:Nat)(d:Dt):Nat:=(bE a b c d).getD (fM a d) 0
theorem KW(d:Dt)(r:List Dt):∀a:List (Dt×List Dt),(gL a d=none/\fU a d r=a++[(d,r)]/\fM a d=a.length)∨((gL a d).isSome=true/\fU a d r=a.set (fM a d) (d,r)/\fM a d<a.length)
 |[]=>.inl ⟨rfl,rfl,rfl⟩
 |p::a=>by
  cases h:fC p.1 d with
  |true=>exact .inr ⟨by simp[gL,h],by simp[fU,fM,h],by simp[fM,h]⟩
  |false =>
   rcases KW d r a with⟨b,c,e⟩|⟨b,c,e⟩
   .exact .inl ⟨by simp[gL,h,b],by simp[fU,h,c],by simp[fM,h,e]⟩
   .exact .inr ⟨by simp[gL,h,b],by simp[fU,fM,h,c],by simp[fM,h,e]⟩
theorem ve(d:Dt)(r g:List Dt)(a:List (Dt×List Dt)):(fU a d r).length=(fU a d g).length:=by
 rcases KW d r a with⟨b,e,_⟩|⟨b,e,_⟩ <;> rcases KW d g a with⟨c,f,_⟩|⟨c,f,_⟩
 .simp[e,f]
 .rw[b]at c;cases c
 .rw[c]at b;cases b
 .simp[e,f]
section
variable {P:Program} {kl:List Bool} {n:Nat} {B:Bs} {Q:Qt} {E:ep} {H:List Ob}
end
section
variable {C:Cx} {E:ep} {H:List Ob} {a:Act} {w:World}
theorem j3(D:Rel C E H a w){K:Nat->Prop}{G:List Gh}(F:Ext C.kp C.K0 C.G0 C.w0 K G w)(s:St K G H w)(I:iB K w.heap G a E)(J:jG C.kp H){q b:Nat}{g:Gh}(r:G[q]?=some g)(f:g.blk=some b)
  {t mes':Array MapEntry} {j d:Nat} {B:Bool} {k:List (Dt×List Dt)} {n:List Nat} (hb:w.heap[b]?=some (.map t j)) (o:k.length<=eC) (L:MRs K w.heap B mes'.toList k) (u:MapKept.Stamped mes' d) (x:mes'.toList.map (·.born)=n)
  {c:Value} {v:Va} (M:∀h G,VR K h G c v):RelV C E (H.set q (.mpb B k n d)) c v a { w with heap:=w.heap.setIfInBounds b (.map mes' d) }:=by
 have y:b<w.heap.size:=(Array.getElem?_eq_some_iff.1 hb).1;have l:=WW w b (.map mes' d);have p:Mn K K w.heap (w.heap.setIfInBounds b (.map mes' d)):=⟨fun _ h=>h,fun i hi=>l i fun e=>(s.gb q g b r f).2 (e ▸ hi)⟩;obtain⟨_,_,_,_,_,N,O,_⟩:=D;refine⟨K,G,F.trans (Ext.modA C.kp r f rfl ⟨rfl,fun _=>Nat.le_refl _⟩ rfl (by simp) l),s.modA r f (by simp) l ?_,fun m=>VR.grow p (fun _ _ h=>h) _ _ (I m),N,O,fun i hi=>?_,M _ _⟩
 .exact⟨o,b,mes',f,by simp[y],L.mono p,u,x⟩
 .by_cases e:i=q
  .subst e;have:i<H.length:=by rw[<-s.len];exact(List.getElem?_eq_some_iff.1 r).1
   exact⟨_,getElem?_set_self this,rfl⟩
  .obtain⟨z,h,A⟩:=J i hi;exact⟨z,by rw[getElem?_set_ne (Ne.symm e)];exact h,A⟩
theorem vT(hR:Rel C E H a w)(o:Oper){t:TypeId}{m k:Operand}(ho:o.op=.mapEntry t m k)(hm:opOk true E m)(hk:opOk true E k){i:Nat}{U:Bool}{c:List (Dt×List Dt)}{B:List Nat}{cl:Nat}{d:Dt}{kt W:TypeId}{D:Ti}{row:List Dt}
  (hx:opnd E m=.mp i) (hkv:nn (opnd E k)=some d) (ht:zo C.P t=.map kt W) (hi:eB H i=.mpb U c B cl) (hte:ex C.P W=some D)
  (h1:iu (jk C.P kt) c) (h2:js (jk C.P kt) d) (h3:ev C.P W=U) (h4:gR D.zero) (h5:U=false->D.zero.length=1) (h6:(fU c d row).length<=eC) :
  gz C o a w (.tup [.top,.raw (goInt (x8 c B cl d))]) E (H.set i (.mpb U (mE c d (zr D.zero)) (bE c B cl d) (cE c cl d))):=by
 have X:=hR;obtain⟨K,G,hX,hS,hE,hd,hn,Y⟩:=hR;have N:=zD hE rfl m hm;have u:=zD hE rfl k hk;rw[hx]at N;have u:=Mf hkv u;simp only[VR]at N;obtain⟨g,b,hg,O,Z⟩:=N;obtain⟨hlim,b',y,hb',s,F,hst,l⟩:=hS.ob i g _ hg (zy hi (by simp));obtain rfl:b'=b:=by rw[O]at hb';exact(Option.some.inj hb').symm
 obtain⟨ti,ht',hk'⟩:=zL ht (by simp);have hu:=BJ ht' hk';obtain⟨hck,Q,R⟩:=MK (P:=C.P) (w:=w) h2 u;have h6':(mE c d (zr D.zero)).length<=eC:=by unfold mE;rw[ve d _ row];exact h6
 have I:∀(x:Value) (h:Array Obj) (G':List Gh),VR K h G' (.tuple #[x,goInt (x8 c B cl d)]) (.tup [.top,.raw (goInt (x8 c B cl d))]):=fun x h G'=>by simp only[VR,VRs];exact⟨[x,goInt (x8 c B cl d)],rfl,_,_,rfl,trivial,_,_,rfl,rfl,rfl⟩
 have hlen:c.length=B.length:=by rw[<-l,length_map];exact F.length.symm
 have run:∀{v:Value} {w':World},(Instr.mapEntry t (a.eval m) (a.eval k)).run C.P w=.ok v w'->(execOp a.eval o).run C.P w=.ok (.value v) w':=by intro v w' hr;obtain⟨dst,op,ty,pos,af,gd⟩:=o;cases ho;exact rD hr
 rcases R F h1 with⟨a1,J,a3,_,a9⟩|⟨j,e,M,a1,J,a3,V,a5,a6,a7⟩
 .obtain⟨i0,z,hi1,hi2,hi3,S⟩:=Ui hte;have hz1:(zeroValue W).run C.P w=.ok z w:=by simp[zeroValue,typeInfo,hi1,hi3]
  have L:ev C.P W=(match z with|.agg _=>true|_=>false):=by simp only[ev,hi1,Option.bind_some,hi3];cases z <;> rfl
  have hval:iN K w.heap U z (zr D.zero):=by
   have r:=jD (K:=K) (h:=w.heap) h4;rw[<-S]at r;cases U with
   |true =>
    rw[h3]at L;cases z <;> first|cases L|skip
    rename_i cs;exact⟨cs.toList,by simp,by rw[<-S];exact r⟩
   |false =>
    rw[h3]at L;have hzs:z.cells.toList=[z]:=by cases z <;> first|rfl|cases L
    rw[hzs]at r;have hrl:=r.length;rw[<-S,hzs];match hzz:zr [z],hrl with
    |[d0],_ =>
     rw[hzz]at r;simp only[DRs]at r;obtain⟨_,_,h6,h7,_⟩:=r;cases h6;exact⟨d0,rfl,h7⟩
  have A:x8 c B cl d=cl:=by
   have:=(KW d [] c).resolve_right fun h=>by rw[J]at h;cases h.1
   simp[x8,bE,J,this.2.2,hlen]
  refine⟨.tuple #[z,goInt cl],_,.inl (run ?_),j3 X hX hS hE Y (mes':=y.push { key:=a.eval k,val:=z,born:=cl }) hg O s h6' ?_ (by simpa [cE,J]using MapKept.stamped_push hst a9) (by simp[bE,J,l]) ?_⟩
  .rw[Z];simp[Instr.mapEntry,run_underlying hu,MapKept.run_getObj_map s,hck,a1,hz1,MapKept.run_setObj_map _ s,Result.andThen,cE,J]
  .unfold mE;rw[a3,show qd c d (zr D.zero)=zr D.zero by simp[qd,J]];simpa using MRs.append (e:={ key:=a.eval k,val:=z,born:=cl }) (p:=(d,zr D.zero)) u hval F
  .rw[A]at I|-;exact I z
 .have hj:y[j]?=some e:=by simpa using J
  have hjl:=(Array.getElem?_eq_some_iff.1 hj).1;have n:(gL c d).isSome=true:=by simp[V]
  have hix:fM c d=j:=by
   rcases KW d [] c with⟨h,_⟩|⟨_,h,hl⟩
   .rw[h]at n;cases n
   .have e1:=a6 [];have e2:=a6 [.b true];rcases KW d [.b true] c with⟨h',_⟩|⟨_,h',_⟩
    .rw[h']at n;cases n
    .have e3:(c.set (fM c d) (d,[]))[fM c d]?=(c.set j (d,[]))[fM c d]?:=by rw[<-h,e1]
     have e4:(c.set (fM c d) (d,[.b true]))[fM c d]?=(c.set j (d,[.b true]))[fM c d]?:=by rw[<-h',e2]
     by_cases hne:j=fM c d
     .exact hne.symm
     .rw[getElem?_set_self hl,getElem?_set_ne hne]at e3 e4;rw[<-e3]at e4;simp at e4
  have f:B[j]?=some e.born:=by rw[<-l,getElem?_map,J];rfl
  have A:x8 c B cl d=e.born:=by simp[x8,bE,V,hix,getD_eq_getElem?_getD,f]
  have hml:(y.modify j fun e=>{ e with key:=a.eval k }).toList=y.toList.set j { e with key:=a.eval k }:=by
   apply ext_getElem?;intro q;rw[Array.getElem?_toList,Array.getElem?_modify];by_cases T:j=q
   .subst T;rw[if_pos rfl,hj,getElem?_set_self (by simpa using hjl)];rfl
   .rw[if_neg T,getElem?_set_ne T,Array.getElem?_toList]
  refine⟨.tuple #[e.val,goInt e.born],_,.inl (run ?_),j3 X hX hS hE Y (mes':=y.modify j fun e=>{ e with key:=a.eval k }) hg O s h6' ?_ (by simpa [cE,V]using MapKept.stamped_modify hst j (fun e=>{ e with key:=a.eval k }) (fun _ _=>rfl) (fun e' _ he'=>by rw[hj]at he';cases he';exact a3.symm)) ?_ ?_⟩
  .rw[Z];simp[Instr.mapEntry,run_underlying hu,MapKept.run_getObj_map s,hck,a1,hj,a3,Q,MapKept.run_setObj_map _ s,Result.andThen,cE,V]
  .unfold mE;rw[a6,hml,show qd c d (zr D.zero)=M by simp[qd,V]];exact F.set (e:={ e with key:=a.eval k }) (p:=(d,M)) u a5 j
  .rw[hml,map_set,l];simp only[bE,V,Option.isSome_some,cond_true]
   exact ext_getElem? fun q=>by
    by_cases hq:j=q
    .subst hq;rw[getElem?_set_self (List.getElem?_eq_some_iff.1 f).1,f]
    .rw[getElem?_set_ne hq]
  .rw[A]at I|-;exact I e.val
end
section
variable {P:Program} {kl:List Bool} {n:Nat} {B:Bs} {ops:List Oper} {K:ep->List Ob->Prop} {l:Plan} {obs:List En} {E:ep} {H:List Ob}
theorem en{k:Nat}{L:List Nat}{o:Oper}{v:Va}{h:List Ob}(g:Is ops[k]? (some o))(r:Is o.guard none)(q:fT n o.dst)(hs:∀b,Agree o.op.operands.toList E b->∀a w,Rel (cx P kl n B) b H a w->gz (cx P kl n B) o a w v b h)(hag:qi L none h obs)
  (d:i7 P kl n B ops.toArray K (gc P kl n ops l ⟨obs,eL E o.dst v,h,True⟩)):Br P kl n B ops.toArray k L l obs E H K:=by
 unfold Is at *;have i:=Dr.run d;simp only at i;rw[<-ja g]at i;refine Br.eff (po:=none) (fun _=>?_) hag i;intro b j a w Q t s m;have p:=xd (gT g) j;rw[ja g]at m;unfold wpOp;simp only[gT g];rw[if_pos (by simp[Region.wanted,r])];refine .inl ?_;obtain⟨c,u,e,f⟩:=hs b p a w s;unfold Oper.wp;rcases e with e|⟨e,rfl⟩
 .rw[e];exact m _ _ (f.put o.dst (zQ q))
 .rw[e];exact m _ _ (f.put o.dst (zQ q))
theorem Br.entry{k:Nat}{L:List Nat}{o:Oper}{t:TypeId}{m key:Operand}{i:Nat}{ag:Bool}{es:List (Dt×List Dt)}{bs:List Nat}{cl:Nat}{d:Dt}{kt et:TypeId}{c:Ti}(row:List Dt)(y:Is ops[k]? (some o))(z:Is o.guard none)(h:Is o.op (.mapEntry t m key))(A:fT n o.dst)(p:opOk true E m/\opOk true E key)
  (j:Is (opnd E m) (.mp i)) (b:Is (nn (opnd E key)) (some d)) (q:Is (zo P t) (.map kt et)) (hi:Is (eB H i) (.mpb ag es bs cl)) (e:Is (ex P et) (some c))
  (hs:iu (jk P kt) es/\js (jk P kt) d/\ev P et=ag/\gR c.zero/\(ag=false->c.zero.length=1)/\(fU es d row).length<=eC)
  (hag:qi L none (H.set i (.mpb ag (mE es d (zr c.zero)) (bE es bs cl d) (cE es cl d))) obs)
  (f:i7 P kl n B ops.toArray K (gc P kl n ops l ⟨obs,eL E o.dst (.tup [.top,.raw (goInt (x8 es bs cl d))]),H.set i (.mpb ag (mE es d (zr c.zero)) (bE es bs cl d) (cE es cl d)),True⟩)):Br P kl n B ops.toArray k L l obs E H K:=by
 obtain⟨C,D,F,G,I,J⟩:=hs;unfold Is at h j b q hi e;refine en y z A (fun r g a w M=>?_) hag f;have s:eK E m=eK r m:=g m (by simp[h,Op.operands]);have u:eK E key=eK r key:=g key (by simp[h,Op.operands]);have v:=p.1;have x:=p.2;rw[Agree.opOk s]at v;rw[Agree.opOk u]at x;rw[Agree.opnd s]at j;rw[Agree.opnd u]at b;exact vT (row:=row) M o h v x j b q hi e C D F G I J
end
section
variable {P:Program} {kl:List Bool} {n:Nat} {B:Bs} {Q:Qt} {E:ep} {H:List Ob}
end
def XJ(a:List Nat):Va->Option Va
 |.nils=>some .nils
 |v=>gX a v
def rY(a:List Nat):List Va->Option (List Va)
 |[]=>some []
 |v::b=>match XJ a v,rY a b with
  |some u,some c=>some (u::c)
  |_,_=>none
theorem qq{K:Nat->Prop}{h:Array Obj}{G k:List Gh}{b:List Nat}(l:∀(j o:Nat),b[j]?=some o->k[j]?=G[o]?):∀{cs:List Value} {f d:List Va},rY b f=some d->VRs K h G cs f->VRs K h k cs d
 |cs,[],d,a,e=>by simp only[rY]at a;cases a;simpa only[VRs]using e
 |cs,v::f,d,a,e=>by
  simp only[rY]at a;split at a
  .rename_i u n g p;cases a;simp only[VRs]at e|-;obtain⟨c,i,q,m,r⟩:=e;refine⟨c,i,q,?_,qq l p r⟩;cases v <;> first|exact uL l g m|skip
   simp only[XJ]at g;cases g;simpa only[VR]using m
  .cases a
section
variable {P:Program} {kl:List Bool} {n:Nat} {B:Bs} {ops:Array Oper} {K:ep->List Ob->Prop} {E:ep} {H:List Ob}
theorem dZ{o:Oper}{l:List Oper}{f:FuncId}{p args:List Va}{X:List Ob}{d:Va->List Ob->Prop}(b:List Nat)(hs:Does P f args X d)(u:Is (xb E o) (some (f,p)))(v:Is (rY b p) (some args))(i:Is (i6 b H b) (some X))(e:jr H.length b=true)(j:ij n true E o)
  (g:∀r h,d r h->r.ok->ft P kl n B ops K (ff P kl n ops.toList l ⟨eL (fX (fH b H) E) o.dst (eW b H.length r),fw (fG (fH b H) H) b (gu b H.length h),True⟩)):Rg P kl n B ops (o::l) E H K:=by
 obtain⟨c,x,q,s,y,t,z,rfl⟩:=UX u;obtain⟨A,C⟩:=qj j s t;intro D a w Q F k;refine wpList_plain y fun N m=>?_;exact ku b hs s t C z (fun G I=>qq G v I) i e F fun O r h R J L M=>m _ _ (Rg.run (g r h J L) D _ _ _ (M.put o.dst (zQ A)) k)
end
attribute [go_sem] XJ rY
end Go.Vc
