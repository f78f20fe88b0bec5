/- An abstract machine for the model: what it computes on, its operations, the walk of a body, and that all of it is true of the model (part 3). -/
import Derived.Test.YtggigadnagoglafGreatDoorVc2
import Derived.Below
import Derived.Carry
import Derived.ChangeArms
import Derived.ChangeSame
import Derived.JoinedCond
import Derived.Lib.Bytealg
import Derived.Lib.SliceRun
import Derived.LoopN
import Derived.ProofKit
import Derived.Shelf.SlIter.Nil
import Derived.Shelf.SlSortCmp.Insertion
import Derived.Shelf.SlSortCmp.NoneTotal
import Derived.Shelf.SortM.Plain
import Derived.Shelf.SortM.SortNone
set_option linter.unusedSectionVars false
set_option linter.unusedVariables false
open List
namespace Go.Vc
variable [Tabs]

inductive Sh where
 |b
 |i (k:IntKind)
 |s
 |l (e:List Sh)
def sP(P:Program)(r:TypeId->Option (List Sh)):Nat->List Field->Option (List Sh)
 |_,[]=>some []
 |off,f::fs=>match r f.type with
  |some x=>if f.offset=off/\P.cellsOf f.type=x.length then match sP P r (off+x.length) fs with
   |some y=>some (x++y)
   |none=>none
   else none
  |none=>none
def vr(P:Program):Nat->TypeId->Option (List Sh)
 |0,_=>none
 |m+1,t=>match P.underlying t with
  |some .bool=>some [.b]
  |some (.int k)=>some [.i k]
  |some .string=>some [.s]
  |some (.slice e)=>match vr P m e with
   |some x=>if P.cellsOf e=x.length/\0<x.length then some [.l x]else none
   |none=>none
  |some (.struct fs)=>match sP P (vr P m) 0 fs.toList with
   |some x=>if P.cellsOf t=x.length then some x else none
   |none=>none
  |_=>none
mutual
def eD:Dt->Sh->Prop
 |.b _,.b=>True
 |.i k _,.i k'=>k=k'
 |.s _,.s=>True
 |.l rows,.l e=>vD rows e
 |_,_=>False
def eG:List Dt->List Sh->Prop
 |[],[]=>True
 |d::ds,e::es=>eD d e/\eG ds es
 |_,_=>False
def vD:List (List Dt)->List Sh->Prop
 |[],_=>True
 |r::rs,e=>eG r e/\vD rs e
end
mutual
def nw:Dt->Nat
 |.b _=>1
 |.i _ _=>1
 |.s x=>x.length+1
 |.l rows=>jW rows+1
 |.a ds=>fP ds+1
 |.r _=>1
def fP:List Dt->Nat
 |[]=>0
 |d::ds=>nw d+fP ds
def jW:List (List Dt)->Nat
 |[]=>0
 |r::rs=>fP r+jW rs
end
mutual
def fI{H:Type}:DataW H->Nat
 |.lit (.string bytes)=>bytes.length+1
 |.lit _=>1
 |.nil=>1
 |.ptr d=>fI d+1
 |.slice elems spare=>gr elems+gr spare+1
 |.agg parts=>gr parts+1
 |.iface _ d=>fI d+1
 |.map entries=>iK entries+1
 |.held _=>1
def gr{H:Type}:List (DataW H)->Nat
 |[]=>0
 |d::r=>fI d+gr r
def iK{H:Type}:List (Lit×DataW H)->Nat
 |[]=>0
 |x::r=>uz x+iK r
def uz{H:Type}:Lit×DataW H->Nat
 |(.string bytes,d)=>bytes.length+fI d+1
 |(_,d)=>fI d+1
end

theorem Kp:∀{a b:List Dt} {x y:List Sh},eG a x->eG b y->eG (a++b) (x++y)
 |[],_,[],_,_,h=>h
 |d::ds,_,e::es,_,h,h'=>by simp only[cons_append,eG]at *;exact⟨h.1,Kp h.2 h'⟩
 |[],_,_::_,_,h,_=>by simp[eG]at h
 |_::_,_,[],_,h,_=>by simp[eG]at h
theorem BW:∀{a:List Dt} {x:List Sh},eG a x->a.length=x.length
 |[],[],_=>rfl
 |d::ds,e::es,h=>by simp only[eG]at h;simp[BW h.2]
 |[],_::_,h=>by simp[eG]at h
 |_::_,[],h=>by simp[eG]at h
theorem Kw:∀a b:List Dt,fP (a++b)=fP a+fP b
 |[],b=>by simp[fP]
 |d::a,b=>by simp only[cons_append,fP,Kw a b];omega
theorem KF{H:Type}:∀l:List (DataW H),l.length<=gr l
 |[]=>by simp[gr]
 |d::l=>by
  have h1:=KF l
  have h2:1<=fI d:=by
   cases d with
   |lit l=>cases l <;> simp[fI]
   |_=>simp[fI]
  simp only[length_cons,gr];omega

theorem vX{k:IntKind}{n:Int}(h:(Lit.int k n).wf=true):Fits k n:=by
 simp only[Lit.wf,Bool.and_eq_true,decide_eq_true_eq]at h
 cases k <;> simpa [Fits,lo,hi,IntKind.min,IntKind.max,IntKind.signed,IntKind.bits]using h

section
variable {H:Type} {enc:TypeId×Value->H} {P:Program} {w:World}
abbrev gZ(w:World):Nat->Prop:=fun b=>b<w.heap.size
def JJ(w:World)(cs:List Value)(d:DataW H)(shs:List Sh):Prop:=∃row,DRs (gZ w) w.heap cs row/\eG row shs/\fP row<=fI d

theorem mX{a:Addr}{n:Nat}{cs:List Value}(hn:0<n)(h:w.cells? 0 a n=some cs):cs.length=n/\a.block<w.heap.size/\a.spot=none/\∃cur T fr,w.heap[a.block]?=some (.cells cur T fr)/\∀j v,cs[j]?=some v->cur[a.off+j]?=some v:=by
 obtain⟨_,h2,h3⟩:=World.cells?_some h;have h0:=h3 0 hn
 have hlt:0<cs.length:=by omega
 rw[getElem?_eq_getElem hlt]at h0;unfold World.cell? at h0;have ha:a.add 0=a:=rfl;rw[ha]at h0;split at h0
 rotate_left
 .cases h0
 rename_i cur T fr hb
 split at h0
 .cases h0
 rename_i hs
 have hs:a.spot=none:=by simpa using hs
 refine⟨h2,(Array.getElem?_eq_some_iff.1 hb).1,hs,cur,T,fr,hb,fun j v hj=>?_⟩;have hjl:=(List.getElem?_eq_some_iff.1 hj).1;have hj':=h3 j (by omega);obtain⟨b,o,s⟩:=a;simp only at hs hb|-;subst hs;rw[lc]at hj';unfold World.cell? at hj';simp only[hb]at hj';rw[<-hj,<-hj'];rfl

theorem jB{r:TypeId->Option (List Sh)}{n:Nat}{cs:List Value}
  (ih:∀t cs x shs,DataW.trod enc P w 0 (fun _=>true) true n t cs=some x->r t=some shs->fI x.1<=eh->JJ w cs x.1 shs) :
  ∀(fs:List Field) (off:Nat) (shs:List Sh) (xs:List (DataW H×List MemPlace)),sP P r off fs=some shs->xs.length=fs.length ->
   (∀(i:Nat) (f:Field),fs[i]?=some f->DataW.trod enc P w 0 (fun _=>true) true n f.type ((cs.drop f.offset).take (P.cellsOf f.type))=xs[i]?)->gr (xs.map (·.1))<=eh ->
   ∃row,DRs (gZ w) w.heap ((cs.drop off).take shs.length) row/\eG row shs/\fP row<=gr (xs.map (·.1))
 |[],off,shs,xs,h,hl,_,_=>by
  simp only[sP]at h;cases h;exact⟨[],by simp[DRs],by simp[eG],by simp[fP]⟩
 |f::fs,off,shs,[],_,hl,_,_=>by simp at hl
 |f::fs,off,shs,y::xs,h,hl,hx,hb=>by
  simp only[sP]at h;split at h
  rotate_left
  .cases h
  rename_i x hr
  split at h
  rotate_left
  .cases h
  rename_i hof
  split at h
  rotate_left
  .cases h
  rename_i z hz
  cases h;simp only[map_cons,gr]at hb|-;have h0:=hx 0 f rfl;simp only[getElem?_cons_zero]at h0;obtain⟨row,h1,h2,h3⟩:=ih _ _ _ _ h0 hr (by omega);obtain⟨row',h1',h2',h3'⟩:=jB ih fs (off+x.length) z xs hz (by simpa using hl) (fun i g hg=>by simpa using hx (i+1) g (by simpa using hg)) (by omega);rw[hof.1,hof.2]at h1;refine⟨row++row',?_,Kp h2 h2',by rw[Kw];omega⟩;rw[length_append,take_add,drop_drop];exact h1.append h1'

theorem mK{n c:Nat}{e:TypeId}{shs:List Sh}{b off:Nat}{cur:Array Value}{T:TypeId}{fr:Nat×Nat}(hb:w.heap[b]?=some (.cells cur T fr))(hc:0<c)(hsh:shs.length=c)
  (ih:∀cs x,DataW.trod enc P w 0 (fun _=>true) true n e cs=some x->fI x.1<=eh->JJ w cs x.1 shs) :
  ∀(els:List (DataW H×List MemPlace)) (i0:Nat),(∀i,i<els.length->(w.cells? 0 ((⟨b,off,none⟩:Addr).add ((i0+i)*c)) c).bind (DataW.trod enc P w 0 (fun _=>true) true n e)=els[i]?)->gr (els.map (·.1))<=eh ->
   ∃vs rows,rows.length=els.length/\DRss (gZ w) w.heap c vs rows/\(∀j v,vs[j]?=some v->cur[off+i0*c+j]?=some v)/\vD rows shs/\jW rows<=gr (els.map (·.1))
 |[],_,_,_=>⟨[],[],rfl,by simp[DRss],by simp,by simp[vD],by simp[jW]⟩
 |y::els,i0,hx,hbk=>by
  simp only[map_cons,gr]at hbk|-;have h0:=hx 0 (by simp);simp only[Nat.add_zero,getElem?_cons_zero,Option.bind_eq_some_iff]at h0;obtain⟨cs,hcs,hy⟩:=h0;rw[lc]at hcs;obtain⟨hl,_,_,cur',T',fr',hb',hcell⟩:=mX hc hcs;simp only at hb' hcell;rw[hb]at hb';cases hb';obtain⟨row,h1,h2,h3⟩:=ih _ _ hy (by omega)
  obtain⟨vs,rows,r1,r2,r3,r4,r5⟩:=mK hb hc hsh ih els (i0+1) (fun i hi=>by
   have:=hx (i+1) (by simpa using hi);rw[show i0+(i+1)=i0+1+i by omega]at this
   simpa using this) (by omega)
  refine⟨cs++vs,row::rows,by simp[r1],?_,fun j v hj=>?_,by simp only[vD];exact⟨h2,r4⟩,by simp only[jW];omega⟩
  .simp only[DRss]
   exact⟨cs,vs,rfl,by rw[BW h2,hsh],h1,r2⟩
  .rw[getElem?_append]at hj
   split at hj
   .exact hcell j v hj
   .have:=r3 _ v hj
    rw[Nat.add_mul]at this;rw[show off+i0*c+j=off+(i0*c+1*c)+(j-cs.length)by omega];exact this

theorem kn:∀(m n:Nat) (t:TypeId) (cs:List Value) (x:DataW H×List MemPlace) (shs:List Sh),DataW.trod enc P w 0 (fun _=>true) true n t cs=some x->vr P m t=some shs->fI x.1<=eh->JJ w cs x.1 shs
 |0,_,_,_,_,_,_,h,_=>by simp[vr]at h
 |m+1,n,t,cs,x,shs,hx,h,hb=>by
  simp only[vr]at h;split at h
  .rename_i hu
   cases h
   obtain⟨n',rfl⟩:∃n',n=n'+1:=by cases n with|zero=>simp[DataW.trod]at hx|succ n'=>exact⟨n',rfl⟩
   unfold DataW.trod at hx;rw[hu]at hx
   split at hx <;> simp_all
   rename_i b
   exact⟨[.b b],by simp[DRs,DR],by simp[eG,eD],by rw[<-hx];simp[fP,nw,fI]⟩
  .rename_i k hu
   cases h;obtain⟨n',rfl,h1,h2⟩:=DataW.trod_int hu hx;subst h1;exact⟨[.i k n'],by simp only[DRs,DR];exact⟨_,_,rfl,⟨rfl,vX h2⟩,rfl⟩,by simp[eG,eD],by simp[fP,nw,fI]⟩
  .rename_i hu
   cases h;obtain⟨s,rfl,h1,h2⟩:=DataW.trod_string hu hx;subst h1;simp only[fI]at hb;exact⟨[.s s.data.toList],by simp only[DRs,DR];exact⟨_,_,rfl,⟨rfl,by omega⟩,rfl⟩,by simp[eG,eD],by simp[fP,nw,fI]⟩
  .rename_i e hu
   split at h
   rotate_left
   .cases h
   rename_i y hy
   split at h
   rotate_left
   .cases h
   rename_i hc
   cases h
   rcases DataW.trod_slice hu hx with⟨rfl,rfl⟩|⟨a,len,cap,elems,rest,n',rfl,rfl,rfl,_,hl,_,hel,hget,hsp,_⟩
   .exact⟨[.l []],by simp only[DRs,DR];exact⟨_,_,rfl,.inl ⟨⟨none,rfl⟩,trivial⟩,rfl⟩,by simp[eG,eD,vD],by simp[fP,nw,jW,fI]⟩
   .obtain⟨hrl,hrest⟩:=hsp rfl
    simp only[fI]at hb
    rcases Nat.eq_zero_or_pos cap with rfl|hcp
    .have:len=0:=by omega
     subst this;exact⟨[.l []],by simp only[DRs,DR];exact⟨_,_,rfl,.inl ⟨⟨some a,rfl⟩,trivial⟩,rfl⟩,by simp[eG,eD,vD],by simp[fP,nw,jW,fI]⟩
    .have hc0:0<P.cellsOf e:=by rw[hc.1];exact hc.2
     have first:∃cs0,w.cells? 0 a (P.cellsOf e)=some cs0:=by
      rcases Nat.eq_zero_or_pos len with h0|h0
      .have h1:=hrest 0 (by omega)
       have h2:rest[0]?≠none:=by simp;intro e;subst e;simp at hrl;omega
       cases h3:rest[0]? with
       |none=>exact absurd h3 h2
       |some r0 =>
        rw[h3,h0,Option.bind_eq_some_iff]at h1;obtain⟨cs0,h4,_⟩:=h1;exact⟨cs0,by simpa [Addr.add]using h4⟩
      .have h1:=hget 0 h0
       have h2:elems[0]?≠none:=by simp;intro e;subst e;simp at hel;omega
       cases h3:elems[0]? with
       |none=>exact absurd h3 h2
       |some r0 =>
        rw[h3,Option.bind_eq_some_iff]at h1;obtain⟨cs0,h4,_⟩:=h1;exact⟨cs0,by simpa [Addr.add]using h4⟩
     obtain⟨cs0,hcs0⟩:=first
     obtain⟨_,hblk,hspot,cur,T,fr,hcur,_⟩:=mX hc0 hcs0;obtain⟨b,off,s⟩:=a;simp only at hblk hspot hcur;subst hspot
     obtain⟨vs,rows,r1,r2,r3,r4,r5⟩:=mK (off:=off) hcur hc0 hc.1.symm (fun cs x h1 h2=>kn m n' e cs x y h1 hy h2) elems 0 (fun i hi=>by
      rw[Nat.zero_add];exact hget i (by omega)) (by omega)
     have hlen:=KF (elems.map (·.1));rw[length_map]at hlen;refine⟨[.l rows],?_,by simp only[eG,eD];exact⟨r4,trivial⟩,by simp only[fP,nw,fI];omega⟩;simp only[DRs];refine⟨_,_,rfl,?_,rfl⟩;simp only[DR];refine .inr ⟨b,off,cap,cur,T,fr,P.cellsOf e,vs,by rw[r1,hel],hblk,hcur,by omega,by omega,fun j v hj=>by simpa using r3 j v hj,r2⟩
  .rename_i fs hu
   split at h
   rotate_left
   .cases h
   rename_i y hy
   split at h
   rotate_left
   .cases h
   rename_i hc
   cases h;obtain⟨xs,n',rfl,rfl,hcl,hxl,hf⟩:=DataW.trod_struct hu hx;simp only[fI]at hb;obtain⟨row,h1,h2,h3⟩:=jB (n:=n') (cs:=cs) (fun t cs x shs a b c=>kn m n' t cs x shs a b c) fs.toList 0 _ xs hy (by simpa using hxl) (fun i f hi=>hf i f (by simpa using hi)) (by omega);rw[drop_zero,<-hc,<-hcl,take_length]at h1;exact⟨row,h1,h2,by simp only[fI];omega⟩
  .cases h

def uM(ag:Bool)(row:List Dt):Va:=bif ag then .agg (row.map .p)else match row with
 |[d]=>.p d
 |_=>.top
def jL:List Bool->List (List Dt)->List Va
 |ag::ags,r::rs=>uM ag r::jL ags rs
 |_,_=>[]
def yv:List (List Dt)->List (List Sh)->Prop
 |[],[]=>True
 |r::rs,s::ss=>eG r s/\yv rs ss
 |_,_=>False
theorem Bg{G:List Gh}{m:Nat}{t:TypeId}{v:Value}{base:Nat}{d:DataW H}{ps:List MemPlace}{shs:List Sh}(hval:Value.okWide P w .any base t v)(h:DataW.Trod enc P w 0 (fun _=>true) true t v d ps)(hs:vr P m t=some shs)(hb:fI d<=eh) :
  ∃row,VR (gZ w) w.heap G v (uM (eM P t) row)/\eG row shs/\fP row<=fI d:=by
 obtain⟨n,hn⟩:=h;obtain⟨row,h1,h2,h3⟩:=kn m n t _ _ _ hn hs hb;refine⟨row,?_,h2,h3⟩
 cases m with
 |zero=>simp[vr]at hs
 |succ m =>
  simp only[vr]at hs;unfold Value.okWide at hval
  have scalar:∀d,P.underlying t=some d->eM P t=false->v.cells.toList=[v]->row.length=1->VR (gZ w) w.heap G v (uM (eM P t) row):=by
   intro _ _ ha hc hl;rw[ha]
   match row,hl with
   |[d],_ =>
    rw[hc]at h1;simp only[DRs]at h1;obtain⟨_,_,h,h4,_⟩:=h1;cases h
    simpa only[uM,cond_false,VR]using h4
  split at hs
  .rename_i hu
   cases hs;refine scalar _ hu (by simp[eM,hu]) ?_ (by rw[BW h2];rfl);rw[hu]at hval;simp only[Cell.okWide,hu,Cell.ok]at hval
   cases v <;> first|rfl|exact hval.elim
  .rename_i k hu
   cases hs;refine scalar _ hu (by simp[eM,hu]) ?_ (by rw[BW h2];rfl);rw[hu]at hval;simp only[Cell.okWide,hu,Cell.ok]at hval
   cases v <;> first|rfl|exact hval.elim
  .rename_i hu
   cases hs;refine scalar _ hu (by simp[eM,hu]) ?_ (by rw[BW h2];rfl);rw[hu]at hval;simp only[Cell.okWide,hu,Cell.ok]at hval
   cases v <;> first|rfl|exact hval.elim
  .rename_i e hu
   split at hs
   rotate_left
   .cases hs
   split at hs
   rotate_left
   .cases hs
   cases hs;refine scalar _ hu (by simp[eM,hu]) ?_ (by rw[BW h2];rfl);rw[hu]at hval;simp only[Cell.okWide,hu,Cell.ok]at hval
   cases v <;> first|rfl|exact hval.elim
  .rename_i fs hu
   rw[hu]at hval;obtain⟨cs,rfl,_⟩:=hval
   have ha:eM P t=true:=by simp[eM,hu]
   rw[ha];simp only[uM,cond_true,VR];exact⟨cs.toList,by simp,h1.vrs⟩
  .cases hs
theorem p0{G:List Gh}{m base:Nat}:∀{ts:List TypeId} {vs:List Value} {ds:List (DataW H)} {ps:List MemPlace} {shss:List (List Sh)},(∀(j:Nat) t v,ts[j]?=some t->vs[j]?=some v->Value.okWide P w .any base t v) ->
  DataW.TrodAll enc P w 0 (fun _=>true) true ts vs ds ps->ts.map (vr P m)=shss.map some->gr ds<=eh->∃rows,VRs (gZ w) w.heap G vs (jL (ts.map (eM P)) rows)/\yv rows shss/\jW rows<=gr ds
 |[],vs,ds,ps,shss,_,h,hs,_=>by
  match vs,ds,h with
  |[],[],_ =>
   have:shss=[]:=by cases shss <;> simp_all
   subst this;exact⟨[],by simp[jL,VRs],by simp[yv],by simp[jW]⟩
 |t::ts,vs,ds,ps,shss,hv,h,hs,hb=>by
  match vs,ds,h with
  |v::vs,d::ds,h =>
   obtain⟨p,q,h0,h1,_⟩:=h
   match shss,hs with
   |[],hs=>simp at hs
   |s::ss,hs =>
    simp only[map_cons,List.cons.injEq]at hs;simp only[gr]at hb;obtain⟨row,r1,r2,r3⟩:=Bg (G:=G) (hv 0 t v rfl rfl) h0 hs.1 (by omega);obtain⟨rows,q1,q2,q3⟩:=p0 (G:=G) (fun j t v a b=>hv (j+1) t v (by simpa using a) (by simpa using b)) h1 hs.2 (by omega);refine⟨row::rows,?_,by simp only[yv];exact⟨r2,q2⟩,by simp only[jW,gr];omega⟩;simp only[map_cons,jL,VRs];exact⟨v,vs,rfl,r1,q1⟩

theorem LJ{f:Func}{s:ChangeSpec}{apart fresh handsOn again:Bool}{W W':World}{args:Array Value}{v:Value}{ds gs:List (DataW H)}{before pa pv:List MemPlace}
  (hW:DataW.Whole enc P f.params.toList s.vars apart W args.toList ds gs before)
  (hres:∀(b:Nat) (sp:Nat->Bool) (hd:Bool),DataW.TrodAll enc P W' b sp hd f.resultTypes.toList (v.resultList f.resultTypes.size) (s.fn H (ds++gs)).results [])
  (hargs:∀sp:Nat->Bool,(∀p∈before,sp p.block=true)->DataW.TrodAll enc P W' 0 sp true f.params.toList args.toList (s.fn H (ds++gs)).args pa)
  (hvars:∀sp:Nat->Bool,(∀p∈before,sp p.block=true)->DataW.TrodVars enc P W' sp s.vars (s.fn H (ds++gs)).vars pv)
  (hps:before=pa++pv) (hb:RowKit.Below W.heap.size W W')
  (hok:∀(j:Nat) (t:TypeId) (r:Value),f.resultTypes[j]?=some t->(v.resultList f.resultTypes.size)[j]?=some r->Value.okWide P W' .any 0 t r) :
  s.post enc P f apart fresh handsOn again W args v W':=by
 have hlt:∀p∈before,p.block<W.heap.size:=fun p hp=>hW.lt p hp
 have hold:∀p∈before,(fun b=>decide (b<W.heap.size)) p.block=true:=fun p hp=>by simpa using hlt p hp
 refine⟨ds,gs,before,[],pa,pv,hW,hres _ _ _,hargs _ hold,hvars _ hold,World.keptBut_mono (fun p hp=>⟨hp,?_⟩) (hb.frame (·∈before)),fun _=>?_⟩
 .rw[hps,mem_append]at hp
  exact Or.inr hp
 .obtain⟨_,_,_,_,_,hz,hn⟩:=hW
  refine⟨hok,_,_,([]++pa)++pv,⟨[]++pa,pv,ChangeShapes.trodAll_append (hargs _ (fun _ _=>rfl)) (hres _ _ _),hvars _ (fun _ _=>rfl),rfl,?_,?_⟩,?_⟩
  .intro b off hp
   have hin:MemPlace.cell b off∈before:=by rw[hps];simpa using hp
   rw[hb.frozen (hlt _ hin)];exact hz b off hin
  .intro ha
   have:=hn ha;rw[hps]at this
   simpa using this
  .intro p hp _
   rw[hps]
   simpa using hp

theorem jN(hl:laidOutB P=true){W W':World}{sp:Nat->Bool}:∀{ts:List TypeId} {vs:List Value} {ds:List (DataW H)} {ps:List MemPlace},ts.all (fun t=>P.readableRec t&&decide (t<P.types.size))=true ->
  DataW.TrodAll enc P W 0 (fun _=>true) true ts vs ds ps->(∀p∈ps,W.sameAt W' p)->(∀p∈ps,sp p.block=true)->DataW.TrodAll enc P W' 0 sp true ts vs ds ps
 |[],vs,ds,ps,_,h,_,_=>by
  match vs,ds,h with
  |[],[],h=>exact h
 |t::ts,vs,ds,ps,ha,h,hs,hp=>by
  match vs,ds,h with
  |v::vs,d::ds,h =>
   obtain⟨p,q,h0,h1,rfl⟩:=h;simp only[all_cons,Bool.and_eq_true,decide_eq_true_eq]at ha
   exact⟨p,q,WideElems.Trod_stays hl ha.1.1 ha.1.2 h0 (fun x hx=>hs x (by simp[hx])) (fun x hx=>hp x (by simp[hx])),
    jN hl ha.2 h1 (fun x hx=>hs x (by simp[hx])) (fun x hx=>hp x (by simp[hx])),rfl⟩

theorem KS{sp:Nat->Bool}{hd:Bool}{base:Nat}:∀{ts:List TypeId} {vs:List Value} {ds:List (DataW H)} {ps:List MemPlace},DataW.TrodAll enc P w base sp hd ts vs ds ps->ds.length=ts.length
 |[],[],[],_,_=>rfl
 |t::ts,v::vs,d::ds,ps,⟨_,_,_,h,_⟩=>by simp[KS h]
 |[],_::_,_,_,h|[],[],_::_,_,h|_::_,[],_,_,h|_::_,_::_,[],_,h=>h.elim
theorem KE:∀a b:List (DataW H),gr (a++b)=gr a+gr b
 |[],b=>by simp[gr]
 |d::a,b=>by simp only[cons_append,gr,KE a b];omega
theorem rR{α:Type}{f:α->List Dt}{e:List Sh}(h:∀r,eG r e->∃a,r=f a):∀{rows:List (List Dt)},vD rows e->∃l:List α,rows=l.map f
 |[],_=>⟨[],rfl⟩
 |r::rs,hr=>by
  simp only[vD]at hr;obtain⟨a,rfl⟩:=h r hr.1;obtain⟨l,rfl⟩:=rR h hr.2;exact⟨a::l,rfl⟩

theorem qH{f:FuncId}{fn:Func}{s:ChangeSpec}(hv:s.vars=[]){tb:TypeId}(hres:fn.resultTypes=#[tb])(htb:P.underlying tb=some .bool)
  (hl:laidOutB P=true) (hts:fn.params.toList.all (fun t=>P.readableRec t&&decide (t<P.types.size))=true) {m:Nat} {shss:List (List Sh)} (hsh:fn.params.toList.map (vr P m)=shss.map some)
  {W:World} {base:Nat} {args:Array Value} {ds gs:List (DataW H)} {before:List MemPlace}
  (htab:TabOk (gZ W) W.heap) (hspec:∀ds:List (DataW H),ds.length=fn.params.toList.length->s.fn H ds={ results:=[.lit (.bool true)],args:=ds })
  (hdoes:∀rows:List (List Dt),yv rows shss->jW rows<=gr ds->Does P f (jL (fn.params.toList.map (eM P)) rows) [] fun r X=>r=.p (.b true)/\X=[])
  (hval:∀(j:Nat) t v,fn.params[j]?=some t->args[j]?=some v->Value.okWide P W .any base t v)
  (hW:DataW.Whole enc P fn.params.toList s.vars false W args.toList ds gs before) (hk:gr ds<=eh) :
  Calls P f args W fun e W'=>∃v,e=.returned v/\s.post enc P fn false true false false W args v W':=by
 have hW':=hW;obtain⟨p,q,hA,hV,rfl,hfz,_⟩:=hW;rw[hv]at hV
 have hgs:gs=[]/\q=[]:=by
  match gs,hV with
  |[],h=>exact⟨rfl,h⟩
 obtain⟨rfl,rfl⟩:=hgs;obtain⟨rows,h1,h2,h3⟩:=p0 (G:=[]) (m:=m) (shss:=shss) (fun j t v a b=>hval j t v (by simpa using a) (by simpa using b)) hA hsh hk;have hS:St (gZ W) [] [] W:=⟨rfl,fun _ h=>h,by simp,by simp,by simp,htab⟩;have hc:=(hdoes rows h2 h3).2 _ _ _ _ hS h1;rw[show args.toList.toArray=args by simp]at hc;refine hc.mono ?_;rintro e W' ⟨c,r,X',K',G',rfl,⟨rfl,rfl⟩,hX,hS',hvr,_⟩;simp only[VR,DR]at hvr;subst hvr;refine⟨_,rfl,?_⟩;have hb:RowKit.Below W.heap.size W W':=⟨hX.os,hX.tape.1,hX.output,hX.size,fun b hb=>hX.frame b hb (fun o g0 h=>by simp at h)⟩
 have hlt:∀x∈p,x.block<W.heap.size:=fun x hx=>hW'.lt x (by simpa using hx)
 have hsp:s.fn H (ds++[])={ results:=[.lit (.bool true)],args:=ds }:=by rw[append_nil];exact hspec ds (KS hA)
 refine LJ (pa:=p) (pv:=[]) hW' (fun b sp hd=>?_) (fun sp hh=>?_) (fun sp hh=>?_) rfl hb ?_
 .rw[hsp,hres]
  exact⟨[],[],⟨1,by simp[DataW.trod,Value.cells,htb]⟩,rfl,rfl⟩
 .rw[hsp]
  exact jN hl hts hA (fun x hx=>hb.same (hlt x hx)) (fun x hx=>hh x (by simpa using hx))
 .rw[hsp,hv]
  rfl
 .intro j t r ht hr
  rw[hres]at ht hr
  match j with
  |0 =>
   simp[Value.resultList]at ht hr
   subst ht;subst hr
   simp[Value.okWide,htb,Cell.okWide,Cell.ok]
  |j+1=>simp at ht
end
variable [Tabs]

section
variable {Z A S:Type} {α:Type}
def dZ(p:Prop)[Decidable p](m:Option Z):Option Z:=if p then m else none
def call(a:Option A)(k:A->Option Z):Option Z:=match a with
 |some x=>k x
 |none=>none
def callG(g:Bool)(a:Option A)(d:A)(k:A->Option Z):Option Z:=match g with
 |true=>call a k
 |false=>k d
def ye(l:List α)(i:Int)(k:α->Option Z):Option Z:=if 0<=i then match l[i.toNat]? with
 |some x=>k x
 |none=>none
 else none
def iC(s:List UInt8)(i:Int)(k:Int->Option Z):Option Z:=if 0<=i then match s[i.toNat]? with
 |some x=>k (x.toNat:Int)
 |none=>none
 else none
def jp(F:S->Option Z)(m:(S->Option Z)->Option Z):Option Z:=m F
def forL:List α->Nat->(Nat->α->S->(S->Option Z)->(S->Option Z)->Option Z)->S->(S->Option Z)->Option Z
 |[],_,_,s,k=>k s
 |x::l,i,f,s,k=>f i x s (fun s'=>forL l (i+1) f s' k) k
def forC:Nat->Nat->(Nat->S->(S->Option Z)->(S->Option Z)->Option Z)->S->(S->Option Z)->Option Z
 |0,_,_,s,k=>k s
 |n+1,i,f,s,k=>f i s (fun s'=>forC n (i+1) f s' k) k
def loopN:Nat->(S->(S->Option Z)->(S->Option Z)->Option Z)->S->(S->Option Z)->Option Z
 |0,_,_,_=>none
 |n+1,f,s,k=>f s (fun s'=>loopN n f s' k) k
def ia:Nat:=1099511627776
abbrev dX:=List UInt8
def Bz(s:dX):List Int:=s.map fun b=>(b.toNat:Int)
def strOf(l:List Int):dX:=l.map fun n=>UInt8.ofNat n.toNat

theorem zl{z:Z}{p:Prop}[Decidable p]{m:Option Z}(h:dZ p m=some z):p/\m=some z:=by
 unfold dZ at h;split at h
 .exact⟨by assumption,h⟩
 .cases h
theorem ze{z:Z}{a:Option A}{k:A->Option Z}(h:call a k=some z):∃x,a=some x/\k x=some z:=by
 cases a with
 |none=>cases h
 |some x=>exact⟨x,rfl,h⟩
theorem zY{z:Z}{g:Bool}{a:Option A}{d:A}{k:A->Option Z}(h:callG g a d k=some z):∃x,(g=true->a=some x)/\k x=some z:=by
 cases g with
 |true=>obtain⟨x,h1,h2⟩:=ze h;exact⟨x,fun _=>h1,h2⟩
 |false=>exact⟨d,fun e=>Bool.noConfusion e,h⟩
theorem Fr{z:Z}{c:Bool}{x y:Option Z}(h:(bif c then x else y)=some z)(hc:c=true):x=some z:=by rw[hc]at h;exact h
theorem Fs{z:Z}{c:Bool}{x y:Option Z}(h:(bif c then x else y)=some z)(hc:c=false):y=some z:=by rw[hc]at h;exact h
theorem Hl{z:Z}{l:List α}{i:Int}{k:α->Option Z}(h:ye l i k=some z) :
  ∃x,(0<=i/\i<(l.length:Int))/\(∀(e:α->List Dt) (d:List Dt),(l.map e).getD i.toNat d=e x)/\l[i.toNat]?=some x/\k x=some z:=by
 unfold ye at h;split at h
 rotate_left
 .cases h
 split at h
 .rename_i x hx
  have:=(List.getElem?_eq_some_iff.1 hx).1;exact⟨x,⟨by assumption,by omega⟩,fun e d=>by simp[getD_eq_getElem?_getD,hx],hx,h⟩
 .cases h
theorem H5{z:Z}{s:List UInt8}{i:Int}{k:Int->Option Z}(h:iC s i k=some z) :
  ∃c,(0<=i/\i<(s.length:Int))/\(((s.getD i.toNat 0).toNat:Int)=c)/\k c=some z:=by
 unfold iC at h;split at h
 rotate_left
 .cases h
 split at h
 .rename_i x hx
  have:=(List.getElem?_eq_some_iff.1 hx).1;exact⟨_,⟨by assumption,by omega⟩,by simp[getD_eq_getElem?_getD,hx],h⟩
 .cases h
theorem zN{z:Z}{F:S->Option Z}{m:(S->Option Z)->Option Z}(h:jp F m=some z):∃k,(∀s,k s=some z->F s=some z)/\m k=some z:=⟨F,fun _ h=>h,h⟩
theorem zF{z:Z}{l:List α}{i:Nat}{f:Nat->α->S->(S->Option Z)->(S->Option Z)->Option Z}{s:S}{F:S->Option Z}(h:forL l i f s F=some z):∃k,(∀s,k s=some z->F s=some z)/\forL l i f s k=some z:=⟨F,fun _ h=>h,h⟩
theorem qQ{z:Z}{n i:Nat}{f:Nat->S->(S->Option Z)->(S->Option Z)->Option Z}{s:S}{F:S->Option Z}(h:forC n i f s F=some z):∃k,(∀s,k s=some z->F s=some z)/\forC n i f s k=some z:=⟨F,fun _ h=>h,h⟩
theorem rY{z:Z}{n:Nat}{f:S->(S->Option Z)->(S->Option Z)->Option Z}{s:S}{F:S->Option Z}(h:loopN n f s F=some z):∃k,(∀s,k s=some z->F s=some z)/\loopN n f s k=some z:=⟨F,fun _ h=>h,h⟩
theorem nD{z:Z}{l:List α}{i:Nat}{f:Nat->α->S->(S->Option Z)->(S->Option Z)->Option Z}{s:S}{k:S->Option Z}(h:forL (l.drop i) i f s k=some z)(hi:i<l.length) :
  ∃x nx,(∀(e:α->List Dt) (d:List Dt),(l.map e).getD i d=e x)/\(∀d,l.getD i d=x)/\(∀s',nx s'=some z->forL (l.drop (i+1)) (i+1) f s' k=some z)/\f i x s nx k=some z:=by
 rw[drop_eq_getElem_cons hi]at h;exact⟨l[i],fun s'=>forL (l.drop (i+1)) (i+1) f s' k,fun e d=>by simp[getD_eq_getElem?_getD,hi],fun d=>by simp[getD_eq_getElem?_getD,hi],fun _ h=>h,h⟩
theorem nE{z:Z}{l:List α}{i:Nat}{f:Nat->α->S->(S->Option Z)->(S->Option Z)->Option Z}{s:S}{k:S->Option Z}(h:forL (l.drop i) i f s k=some z)(hi:¬ i<l.length):k s=some z:=by
 rw[drop_eq_nil_of_le (by omega)]at h;exact h
theorem qP{z:Z}{n i:Nat}{f:Nat->S->(S->Option Z)->(S->Option Z)->Option Z}{s:S}{k:S->Option Z}(h:forC (n-i) i f s k=some z)(hi:i<n) :
  ∃nx,(∀s',nx s'=some z->forC (n-(i+1)) (i+1) f s' k=some z)/\f i s nx k=some z:=by
 rw[show n-i=(n-(i+1))+1 by omega]at h;exact⟨_,fun _ h=>h,h⟩
theorem tP{z:Z}{n i:Nat}{f:Nat->S->(S->Option Z)->(S->Option Z)->Option Z}{s:S}{k:S->Option Z}(h:forC (n-i) i f s k=some z)(hi:¬ i<n):k s=some z:=by
 rw[show n-i=0 by omega]at h;exact h
theorem CT{l:List α}{e:α->List Dt}{d:α}{i:Nat}:(l.map e).getD i (e d)=e (l.getD i d):=by
 simp only[getD_eq_getElem?_getD,getElem?_map]
 cases l[i]? <;> rfl
theorem yF{l:List α}{e:α->List Dt}{d:α}{i:Nat}(hi:i<l.length)(z:List Dt):(l.map e).getD i z=e (l.getD i d):=by
 simp[getD_eq_getElem?_getD,hi]
theorem qk{β:Type}(n:Nat)(f:α->β)(l:List α):(l.map f).take n=(l.take n).map f:=by rw[map_take]
theorem qY{β:Type}(n:Nat)(f:α->β)(l:List α):(l.map f).drop n=(l.drop n).map f:=by rw[map_drop]
theorem na{β:Type}(f:α->β)(a b:List α):a.map f++b.map f=(a++b).map f:=by rw[map_append]
theorem w9(l:List UInt8):(ByteArray.mk l.toArray).data.toList=l:=by simp
theorem uj:((⟨#[]⟩:ByteArray).data.toList:List UInt8)=[]:=rfl
theorem od{i n:Nat}(h:decide ((i:Int)<(n:Int))=true):i<n:=by simpa using h
theorem vF{i n:Nat}(h:decide ((i:Int)<(n:Int))=false):¬ i<n:=by simpa using h
theorem lu{i n:Nat}(h:i<n)(hn:n<=274877906944):IntKind.i64.wrap ((i:Int)+1)=((i+1:Nat):Int):=by rw[nL (by omega) (by omega)];omega
end

section
variable {P:Program} {kl:List Bool} {n:Nat} {B:Bs} {Q:Qt} {E:dY} {H:List Ob}
theorem da{id:Nat}{os:List Oper}(plan:Plan)(hm:P.follows .mixedOrders=true)(hl:plan.length=os.length)(hp:g4 os.toArray plan [] (Array.replicate os.length false)=true)
  (h:∀K:dY->List Ob->Prop,(∀E H,Q .normal E H->K E H)->gy P kl n B os.toArray K (fw P kl n os plan ⟨[],E,H,True⟩)):Wp P kl n B (.region id os.toArray true) Q E H :=
 db plan hm hl hp fun K' hK'=>Dr.run (h K' fun E' H' hy=>hK' E' H' hy)
end
section
variable {P:Program} {kl:List Bool} {n:Nat} {B:Bs} {Q:Qt} {E:dY} {H:List Ob}
theorem ca{x y:Code}(h:∀K:dY->List Ob->Prop,(∀E H,Wp P kl n B y Q E H->K E H)->(∀E H E' H',iV kl E H E' H'->K E' H'->K E H)->Wp P kl n B x (zS K Q) E H):Wp P kl n B (.seq x y) Q E H:=by
 intro hB a w hR;refine wp_seq (wp_mono (h _ (fun _ _ h=>h) (fun _ _ _ _ hw h=>Wp.weak hw h) hB a w hR) ?_);intro e a' w' ⟨E',H',hq,hR'⟩
 cases e <;> first|exact hq hB a' w' hR'|exact⟨E',H',hq,hR'⟩
theorem Wp.forL{Z S α:Type}{z:Z}{f:Nat->α->S->(S->Option Z)->(S->Option Z)->Option Z}{k:S->Option Z}{l:List α}{c:Code}{s0:S}(live:Nat->S->dY)(objs:Nat->S->List Ob)(h0:iV kl E H (live 0 s0) (objs 0 s0))(hm:Vc.forL l 0 f s0 k=some z)
  (round:∀(i:Nat) (s:S),i<=l.length->Vc.forL (l.drop i) i f s k=some z->Wp P kl n B c (zS (fun E' H'=>∃s',i<l.length/\Vc.forL (l.drop (i+1)) (i+1) f s' k=some z/\iV kl E' H' (live (i+1) s') (objs (i+1) s')) Q) (live i s) (objs i s)):Wp P kl n B (.loop c) Q E H:=by
 refine Wp.loop (S:=Nat×S) (fun t=>live t.1 t.2) (fun t=>objs t.1 t.2) (fun t=>t.1<=l.length/\Vc.forL (l.drop t.1) t.1 f t.2 k=some z) (fun t=>l.length-t.1) (0,s0) h0 ⟨Nat.zero_le _,hm⟩ fun t ⟨h1,h2⟩=>(round t.1 t.2 h1 h2).mono fun e E' H' h=>?_
 cases e with
 |normal=>obtain⟨s',h3,h4,h5⟩:=h;exact⟨(t.1+1,s'),⟨h3,h4⟩,by simp only;omega,h5⟩
 |_=>exact h
theorem Wp.forC{Z S:Type}{z:Z}{f:Nat->S->(S->Option Z)->(S->Option Z)->Option Z}{k:S->Option Z}{m:Nat}{c:Code}{s0:S}(live:Nat->S->dY)(objs:Nat->S->List Ob)(h0:iV kl E H (live 0 s0) (objs 0 s0))(hm:Vc.forC m 0 f s0 k=some z)
  (round:∀(i:Nat) (s:S),i<=m->Vc.forC (m-i) i f s k=some z->Wp P kl n B c (zS (fun E' H'=>∃s',i<m/\Vc.forC (m-(i+1)) (i+1) f s' k=some z/\iV kl E' H' (live (i+1) s') (objs (i+1) s')) Q) (live i s) (objs i s)):Wp P kl n B (.loop c) Q E H:=by
 refine Wp.loop (S:=Nat×S) (fun t=>live t.1 t.2) (fun t=>objs t.1 t.2) (fun t=>t.1<=m/\Vc.forC (m-t.1) t.1 f t.2 k=some z) (fun t=>m-t.1) (0,s0) h0 ⟨Nat.zero_le _,hm⟩ fun t ⟨h1,h2⟩=>(round t.1 t.2 h1 h2).mono fun e E' H' h=>?_
 cases e with
 |normal=>obtain⟨s',h3,h4,h5⟩:=h;exact⟨(t.1+1,s'),⟨h3,h4⟩,by simp only;omega,h5⟩
 |_=>exact h
theorem Wp.loopN{Z S:Type}{z:Z}{f:S->(S->Option Z)->(S->Option Z)->Option Z}{k:S->Option Z}{m:Nat}{c:Code}{s0:S}(live:S->dY)(objs:S->List Ob)(h0:iV kl E H (live s0) (objs s0))(hm:Vc.loopN m f s0 k=some z)
  (round:∀(s:S) (nx:S->Option Z),f s nx k=some z->Wp P kl n B c (zS (fun E' H'=>∃s',nx s'=some z/\iV kl E' H' (live s') (objs s')) Q) (live s) (objs s)):Wp P kl n B (.loop c) Q E H:=by
 refine Wp.loop (S:=Nat×S) (fun t=>live t.2) (fun t=>objs t.2) (fun t=>Vc.loopN t.1 f t.2 k=some z) (fun t=>t.1) (m,s0) h0 hm fun t ht=>?_
 obtain⟨i,s⟩:=t
 cases i with
 |zero=>cases ht
 |succ i =>
  refine(round s (fun s'=>Vc.loopN i f s' k) ht).mono fun e E' H' h=>?_
  cases e with
  |normal=>obtain⟨s',h3,h4⟩:=h;exact⟨(i,s'),h3,Nat.lt_succ_self _,h4⟩
  |_=>exact h
def Lx(P:Program)(kl:List Bool)(n:Nat)(B:Bs)(c:Code)(Q:Qt):Nat->dY->List Ob->Prop
 |0,_,_=>False
 |m+1,E,H=>Wp P kl n B c (zS (Lx P kl n B c Q m) Q) E H
theorem dQ{c:Code}(m:Nat)(h:Lx P kl n B c Q m E H):Wp P kl n B (.loop c) Q E H:=by
 intro hB a w hR;refine wp_loop_rounds m ?_
 induction m generalizing E H a w with
 |zero=>exact h.elim
 |succ m ih =>
  rw[rounds_succ];refine wp_mono (h hB a w hR) ?_;intro e a' w' ⟨E',H',hq,hR'⟩
  cases e with
  |normal=>exact ih hq a' w' hR'
  |_=>exact⟨E',H',hq,hR'⟩

theorem cu{c:Code}(slot:Nat)(T:TypeId)(sz:Nat)(h:eC E slot=.nils)(hc:Wp P kl n B c Q ((slot,.buf H.length)::E) (H++[.buf T sz []])):Wp P kl n B c Q E H:=by
 intro hB a w hR
 have hv:a.tmps.getD slot undef=.slice none 0 0:=by
  obtain⟨K,G,_,_,hE,_⟩:=hR;have:=hE slot;rw[h]at this
  simpa only[VR]using this
 obtain⟨K,G,h1,h2,h3,h4,h5,h6,h7⟩:=jm hR T sz;refine hc hB a w ⟨K,G,h1,h2,fun m=>?_,h4,h5,h6⟩;simp only[eC];split
 .rename_i e;subst e;rw[hv];exact h7
 .exact h3 m
theorem dI{c:Code}(slot:Nat)(T:TypeId)(sz:Nat)(h:eC E slot=.full [])(hc:Wp P kl n B c Q ((slot,.buf H.length)::E) (H++[.buf T sz []])):Wp P kl n B c Q E H:=by
 intro hB a w hR
 have hv:∃ad,a.tmps.getD slot undef=.slice ad 0 0:=by
  obtain⟨K,G,_,_,hE,_⟩:=hR;have:=hE slot;rw[h]at this;simp only[VR]at this;exact this.2
 obtain⟨ad,hv⟩:=hv;obtain⟨K,G,h1,h2,h3,h4,h5,h6,h7⟩:=Kc hR ad T sz;refine hc hB a w ⟨K,G,h1,h2,fun m=>?_,h4,h5,h6⟩;simp only[eC];split
 .rename_i e;subst e;rw[hv];exact h7
 .exact h3 m
theorem dc{c:Code}(o off:Nat)(X:Ob)(hX:∀K h G,ObR K h G ⟨none,.slice none 0 0,[]⟩ X){T0:TypeId}{vs:List Va}(ho:ed H o=.cells T0 vs)(h:vs[off]?=some .nils)(hc:Wp P kl n B c Q E (H.set o (.cells T0 (vs.set off (.buf H.length)))++[X])):Wp P kl n B c Q E H:=by
 intro hB a w hR;obtain⟨K,G,h1,h2,h3,h4,h5,h6,h7⟩:=Ik hR X hX;have hoH:=zn ho (by simp);have hol:=(List.getElem?_eq_some_iff.1 hoH).1
 have ho':(H++[X])[o]?=some (.cells T0 vs):=by rw[getElem?_append_left hol];exact hoH
 have hlen:=h2.len;refine hc hB a w ⟨K,G,h1,⟨by simpa using hlen,h2.kb,h2.gbo,h2.ijo,fun i g x hg hx=>?_,h2.tb⟩,h3,h4,h5,fun i hi=>?_⟩
 .by_cases e:i=o
  .subst e
   rw[getElem?_append_left (by simpa using hol),getElem?_set_self hol]at hx;cases hx;obtain⟨b,cs,r1,r2,r3⟩:=h2.ob i g _ hg ho';refine⟨b,cs,r1,r2,?_⟩;obtain⟨c0,hc0,hv0⟩:=r3.get off _ h;simp only[VR]at hv0;subst hv0;have:=r3.set h7 off
   rwa [show cs.set off (.slice none 0 0)=cs by
    apply ext_getElem?;intro j
    by_cases hj:off=j
    .subst hj;rw[getElem?_set_self (List.getElem?_eq_some_iff.1 hc0).1,hc0]
    .rw[getElem?_set_ne hj]]at this
  .refine h2.ob i g x hg ?_
   rw[<-hx];simp only[getElem?_append,length_set,getElem?_set_ne (Ne.symm e)]
 .obtain⟨vs',hvs',hkt⟩:=h6 i hi
  by_cases e:i=o
  .subst e
   exact⟨_,by rw[getElem?_append_left (by simpa using hol),getElem?_set_self hol],rfl⟩
  .refine⟨vs',?_,hkt⟩
   rw[<-hvs'];simp only[getElem?_append,length_set,getElem?_set_ne (Ne.symm e)]
theorem cZ{c:Code}(o off:Nat)(T:TypeId)(sz:Nat){T0:TypeId}{vs:List Va}(ho:ed H o=.cells T0 vs)(h:vs[off]?=some .nils)(hc:Wp P kl n B c Q E (H.set o (.cells T0 (vs.set off (.buf H.length)))++[.buf T sz []])):Wp P kl n B c Q E H :=
 dc o off (.buf T sz []) (fun _ _ _=>⟨by simp,[],by simp[DRss],.inl ⟨⟨none,rfl⟩,rfl,rfl⟩⟩) ho h hc
theorem dn{c:Code}(o off:Nat)(T:TypeId){T0:TypeId}{vs:List Va}(ho:ed H o=.cells T0 vs)(h:vs[off]?=some .nils)(hc:Wp P kl n B c Q E (H.set o (.cells T0 (vs.set off (.buf H.length)))++[.sb T []])):Wp P kl n B c Q E H :=
 dc o off (.sb T []) (fun _ _ _=>⟨by simp,.inl ⟨rfl,rfl,rfl⟩⟩) ho h hc
theorem pn:∀{H:List Ob} {o:Nat} {x:Ob},H[o]?=some x->ed H o=x
 |[],_,_,h=>by simp at h
 |y::l,0,x,h=>by simpa [ed]using h
 |y::l,n+1,x,h=>by simp only[ed];exact pn (by simpa using h)
theorem dy{c:Code}(o off:Nat)(v':Va){v:Va}{T0:TypeId}{vs:List Va}(ho:ed H o=.cells T0 vs)(h:vs[off]?=some v)(hl:fJ v v')(hc:Wp P kl n B c Q E (H.set o (.cells T0 (vs.set off v')))):Wp P kl n B c Q E H:=by
 intro hB a w ⟨K,G,h1,h2,h3,h4,h5,h6⟩;have hoH:=zn ho (by simp);have hol:=(List.getElem?_eq_some_iff.1 hoH).1;refine hc hB a w ⟨K,G,h1,⟨by simpa using h2.len,h2.kb,h2.gbo,h2.ijo,fun i g x hg hx=>?_,h2.tb⟩,h3,h4,h5,fun i hi=>?_⟩
 .by_cases e:i=o
  .subst e
   rw[getElem?_set_self hol]at hx;cases hx;obtain⟨b,cs,r1,r2,r3⟩:=h2.ob i g _ hg hoH;refine⟨b,cs,r1,r2,?_⟩;obtain⟨c0,hc0,hv0⟩:=r3.get off _ h;have:=r3.set (kz hl hv0) off
   rwa [show cs.set off c0=cs by
    apply ext_getElem?;intro j
    by_cases hj:off=j
    .subst hj;rw[getElem?_set_self (List.getElem?_eq_some_iff.1 hc0).1,hc0]
    .rw[getElem?_set_ne hj]]at this
  .rw[getElem?_set_ne (Ne.symm e)]at hx
   exact h2.ob i g x hg hx
 .obtain⟨vs',hvs',hkt⟩:=h6 i hi
  by_cases e:i=o
  .subst e
   exact⟨_,getElem?_set_self hol,rfl⟩
  .exact⟨vs',by rw[getElem?_set_ne (Ne.symm e)];exact hvs',hkt⟩
theorem dJ{c:Code}(o:Nat)(T:TypeId){T0:TypeId}(ho:ed H o=.cells T0 [.nil,.nils])(hc:Wp P kl n B c Q E (H.set o (.cells T0 [.np o,.buf H.length])++[.sb T []])):Wp P kl n B c Q E H:=by
 refine dn o 1 T ho rfl ?_;have hol:=(List.getElem?_eq_some_iff.1 (zn ho (by simp))).1;refine dy o 0 (.np o) (T0:=T0) (vs:=[.nil,.buf H.length]) (v:=.nil) ?_ rfl trivial ?_
 .refine pn ?_
  rw[getElem?_append_left (by simpa using hol),getElem?_set_self hol];rfl
 .simpa [set_append,hol]using hc
end
theorem sx(n:Nat):eT n []=True:=eq_true (fun _ h=>by cases h)
theorem qo(n:Nat)(r:List Dt)(rs:List (List Dt)):eT n (r::rs)=(r.length=n/\eT n rs):=by
 apply propext;constructor
 .intro h;exact⟨h r (by simp),fun x hx=>h x (by simp[hx])⟩
 .rintro⟨h1,h2⟩ x hx
  rcases mem_cons.1 hx with rfl|hx
  .exact h1
  .exact h2 x hx
attribute [go_sem] sx qo uj w9 zr Oa Option.some.injEq

def lT:List Nat->Nat->Option Nat
 |[],_=>none
 |i::ids,o=>if i=o then some 0 else match lT ids o with
  |some j=>some (j+1)
  |none=>none
def ie:List Nat->Nat->Nat->Nat
 |[],base,j=>base+j
 |i::_,_,0=>i
 |_::ids,base,j+1=>ie ids base j
mutual
def eZ(ids:List Nat):Va->Option Va
 |.ptr o a=>match lT ids o with
  |some j=>some (.ptr j a)
  |none=>none
 |.cs o a=>match lT ids o with
  |some j=>some (.cs j a)
  |none=>none
 |.el o s i a=>match lT ids o with
  |some j=>some (.el j s i a)
  |none=>none
 |.buf o=>match lT ids o with
  |some j=>some (.buf j)
  |none=>none
 |.mp o=>match lT ids o with
  |some j=>some (.mp j)
  |none=>none
 |.np o=>match lT ids o with
  |some j=>some (.np j)
  |none=>none
 |.sd o=>match lT ids o with
  |some j=>some (.sd j)
  |none=>none
 |.vw o s a n=>match lT ids o with
  |some j=>some (.vw j s a n)
  |none=>none
 |.bufc o s=>match lT ids o with
  |some j=>some (.bufc j s)
  |none=>none
 |.nv o i=>match lT ids o with
  |some j=>some (.nv j i)
  |none=>none
 |.ne o s i j0 a=>match lT ids o with
  |some j=>some (.ne j s i j0 a)
  |none=>none
 |.fn f vs=>match hT ids vs with
  |some us=>some (.fn f us)
  |none=>none
 |.agg vs=>match hT ids vs with
  |some us=>some (.agg us)
  |none=>none
 |.tup vs=>match hT ids vs with
  |some us=>some (.tup us)
  |none=>none
 |.cnd _ _=>none
 |v=>some v
def hT(ids:List Nat):List Va->Option (List Va)
 |[]=>some []
 |v::vs=>match eZ ids v,hT ids vs with
  |some u,some us=>some (u::us)
  |_,_=>none
end
mutual
def gE(ids:List Nat):Va->Option Va
 |.nils=>some (.p (.l []))
 |.full r=>some (.p (.l r))
 |.agg vs=>match ja ids vs with
  |some us=>some (.agg us)
  |none=>none
 |v=>eZ ids v
def ja(ids:List Nat):List Va->Option (List Va)
 |[]=>some []
 |v::vs=>match gE ids v,ja ids vs with
  |some u,some us=>some (u::us)
  |_,_=>none
end
def kf(ids:List Nat):Ob->Option Ob
 |.cells T vs=>match hT ids vs with
  |some us=>some (.cells T us)
  |none=>none
 |.it _ _ _=>none
 |.nst f T sz k p rows st=>match lT ids p with
  |some j=>some (.nst f T sz k j rows st)
  |none=>none
 |x=>some x
def ii(ids:List Nat)(H:List Ob):List Nat->Option (List Ob)
 |[]=>some []
 |i::is=>match kf ids (ed H i),ii ids H is with
  |some x,some X=>some (x::X)
  |_,_=>none
mutual
def eH(ids:List Nat)(base:Nat):Va->Va
 |.ptr o a=>.ptr (ie ids base o) a
 |.cs o a=>.cs (ie ids base o) a
 |.el o s i a=>.el (ie ids base o) s i a
 |.buf o=>.buf (ie ids base o)
 |.mp o=>.mp (ie ids base o)
 |.np o=>.np (ie ids base o)
 |.sd o=>.sd (ie ids base o)
 |.vw o s a n=>.vw (ie ids base o) s a n
 |.bufc o s=>.bufc (ie ids base o) s
 |.nv o i=>.nv (ie ids base o) i
 |.ne o s i j a=>.ne (ie ids base o) s i j a
 |.fn f vs=>.fn f (iM ids base vs)
 |.agg vs=>.agg (iM ids base vs)
 |.tup vs=>.tup (iM ids base vs)
 |.cnd _ _=>.top
 |v=>v
def iM(ids:List Nat)(base:Nat):List Va->List Va
 |[]=>[]
 |v::vs=>eH ids base v::iM ids base vs
end
def xh(ids:List Nat)(base:Nat):Ob->Ob
 |.cells T vs=>.cells T (iM ids base vs)
 |.it _ _ _=>.gone
 |.nst f T sz k p rows st=>.nst f T sz k (ie ids base p) rows st
 |x=>x
def fO(ids:List Nat)(base:Nat):List Ob->List Ob
 |[]=>[]
 |x::X=>xh ids base x::fO ids base X
def eV{α:Type}:List α->List Nat->List α->List α
 |H,i::ids,x::X=>eV (H.set i x) ids X
 |H,[],X=>H++X
 |H,_::_,[]=>H
def iS(m:Nat):List Nat->Bool
 |[]=>true
 |i::ids=>decide (i<m)&&!(ids.contains i)&&iS m ids
def fg(ids:List Nat)(H:List Ob)(o:Nat):Bool:=!(ids.contains o&&!(ed H o).kept)

theorem g9:∀{ids:List Nat} {o j:Nat},lT ids o=some j->ids[j]?=some o
 |[],_,_,h=>by simp[lT]at h
 |i::ids,o,j,h=>by
  simp only[lT]at h;split at h
  .cases h;rename_i e;simp[e]
  .split at h
   .rename_i j' hj
    cases h
    simpa using g9 hj
   .cases h
theorem Ge{m:Nat}:∀{ids:List Nat},iS m ids=true->ids.Nodup/\∀i∈ids,i<m
 |[],_=>by simp
 |i::ids,h=>by
  simp only[iS,Bool.and_eq_true,decide_eq_true_eq,Bool.not_eq_true',contains_eq_mem,decide_eq_false_iff_not]at h;obtain⟨h1,h2⟩:=Ge h.2;refine⟨nodup_cons.2 ⟨h.1.2,h1⟩,fun j hj=>?_⟩
  rcases mem_cons.1 hj with rfl|hj
  .exact h.1.1
  .exact h2 j hj
theorem oN:∀{ids:List Nat} {base j i:Nat},ids[j]?=some i->ie ids base j=i
 |[],_,_,_,h=>by simp at h
 |i::ids,base,0,k,h=>by simp at h;simp[ie,h]
 |i::ids,base,j+1,k,h=>by simp only[ie];exact oN (by simpa using h)
theorem uG:∀{ids:List Nat} {base j:Nat},ids.length<=j->ie ids base j=base+(j-ids.length)
 |[],_,_,_=>by simp[ie]
 |i::ids,base,0,h=>by simp at h
 |i::ids,base,j+1,h=>by simp only[ie,length_cons];rw[uG (by simpa using h)];omega

theorem BZ{α:Type}:∀{ids:List Nat} {H X:List α},ids.length<=X.length->(eV H ids X).length=H.length+(X.length-ids.length)
 |[],H,X,_=>by simp[eV]
 |i::ids,H,x::X,h=>by simp only[eV];rw[BZ (by simpa using h)];simp
 |i::ids,H,[],h=>by simp at h
theorem BH{α:Type}:∀{ids:List Nat} {H X:List α} {o:Nat},o∉ids->o<H.length->(eV H ids X)[o]?=H[o]?
 |[],H,X,o,_,h=>by simp only[eV];rw[getElem?_append_left h]
 |i::ids,H,x::X,o,hn,h=>by
  simp only[eV];rw[BH (fun h=>hn (by simp[h])) (by simpa using h),getElem?_set_ne (fun e=>hn (by simp[e]))]
 |i::ids,H,[],o,_,_=>rfl
theorem BG{α:Type}:∀{ids:List Nat} {H X:List α} {j i:Nat},ids.Nodup->(∀i∈ids,i<H.length)->ids.length<=X.length->ids[j]?=some i->(eV H ids X)[i]?=X[j]?
 |[],_,_,_,_,_,_,_,h=>by simp at h
 |i::ids,H,[],_,_,_,_,hl,_=>by simp at hl
 |i::ids,H,x::X,0,k,hn,hlt,_,h=>by
  simp at h;subst h;simp only[eV];rw[BH (nodup_cons.1 hn).1 (by simpa using hlt i (by simp)),getElem?_set_self (hlt i (by simp))];rfl
 |i::ids,H,x::X,j+1,k,hn,hlt,hl,h=>by
  simp only[eV];rw[BG (nodup_cons.1 hn).2 (fun q hq=>by simpa using hlt q (by simp[hq])) (by simpa using hl) (by simpa using h)];rfl
theorem Hz{α:Type}:∀{ids:List Nat} {H X:List α} {j:Nat},ids.length<=j->(eV H ids X)[H.length+(j-ids.length)]?=X[j]?
 |[],H,X,j,_=>by simp only[eV];rw[getElem?_append_right (by omega)];simp
 |i::ids,H,[],j,_=>by simp only[eV];rw[getElem?_eq_none (by omega)];rfl
 |i::ids,H,x::X,0,h=>by simp at h
 |i::ids,H,x::X,j+1,h=>by
  simp only[eV];have:=Hz (H:=H.set i x) (X:=X) (ids:=ids) (j:=j) (by simpa using h);rw[length_set]at this
  simpa using this
theorem Ip{α:Type}{ids:List Nat}{H X:List α}{o:Nat}{y:α}(hn:ids.Nodup)(hlt:∀i∈ids,i<H.length)(hl:ids.length<=X.length)(h:(eV H ids X)[o]?=some y) :
  (∃j:Nat,ids[j]?=some o/\X[j]?=some y)∨(o∉ids/\o<H.length/\H[o]?=some y)∨(∃j:Nat,ids.length<=j/\o=H.length+(j-ids.length)/\X[j]?=some y):=by
 by_cases ho:o∈ids
 .obtain⟨j,hj⟩:=getElem?_of_mem ho
  exact .inl ⟨j,hj,by rw[<-BG hn hlt hl hj];exact h⟩
 .rcases Nat.lt_or_ge o H.length with h1|h1
  .exact .inr (.inl ⟨ho,h1,by rw[<-BH ho h1];exact h⟩)
  .refine .inr (.inr ⟨o-H.length+ids.length,by omega,by omega,?_⟩)
   rw[<-Hz (H:=H) (X:=X) (j:=o-H.length+ids.length) (ids:=ids) (by omega)];rw[show H.length+(o-H.length+ids.length-ids.length)=o by omega];exact h

section
variable {K:Nat->Prop} {h:Array Obj} {G G1:List Gh} {ids:List Nat} {base:Nat}
mutual
theorem iY(hG:∀(j o:Nat),ids[j]?=some o->G1[j]?=G[o]?):∀{c:Value} {v u:Va},eZ ids v=some u->VR K h G c v->VR K h G1 c u
 |c,.p x,u,hp,hv=>by simp only[eZ]at hp;cases hp;simpa only[VR]using hv
 |c,.nils,u,hp,hv=>by simp only[eZ]at hp;cases hp;simpa only[VR]using hv
 |c,.full rows,u,hp,hv=>by simp only[eZ]at hp;cases hp;simpa only[VR]using hv
 |c,.rp row,u,hp,hv=>by simp only[eZ]at hp;cases hp;simpa only[VR]using hv
 |c,.nil,u,hp,hv=>by simp only[eZ]at hp;cases hp;simpa only[VR]using hv
 |c,.raw v,u,hp,hv=>by simp only[eZ]at hp;cases hp;simpa only[VR]using hv
 |c,.er v,u,hp,hv=>by simp only[eZ]at hp;cases hp;simpa only[VR]using hv
 |c,.top,u,hp,hv=>by simp only[eZ]at hp;cases hp;simp[VR]
 |c,.ptr o a,u,hp,hv=>by
  simp only[eZ]at hp;split at hp
  .rename_i j hj;cases hp;simp only[VR]at *;obtain⟨g,b,h1,h2⟩:=hv;exact⟨g,b,by rw[hG j o (g9 hj)];exact h1,h2⟩
  .cases hp
 |c,.cs o a,u,hp,hv=>by
  simp only[eZ]at hp;split at hp
  .rename_i j hj;cases hp;simp only[VR]at *;obtain⟨g,b,h1,h2⟩:=hv;exact⟨g,b,by rw[hG j o (g9 hj)];exact h1,h2⟩
  .cases hp
 |c,.el o s i a,u,hp,hv=>by
  simp only[eZ]at hp;split at hp
  .rename_i j hj;cases hp;simp only[VR]at *;obtain⟨g,b,n,cap,h1,h2⟩:=hv;exact⟨g,b,n,cap,by rw[hG j o (g9 hj)];exact h1,h2⟩
  .cases hp
 |c,.buf o,u,hp,hv=>by
  simp only[eZ]at hp;split at hp
  .rename_i j hj;cases hp;simp only[VR]at *;obtain⟨g,h1,h2⟩:=hv;exact⟨g,by rw[hG j o (g9 hj)];exact h1,h2⟩
  .cases hp
 |c,.mp o,u,hp,hv=>by
  simp only[eZ]at hp;split at hp
  .rename_i j hj;cases hp;simp only[VR]at *;obtain⟨g,b,h1,h2⟩:=hv;exact⟨g,b,by rw[hG j o (g9 hj)];exact h1,h2⟩
  .cases hp
 |c,.np o,u,hp,hv=>by
  simp only[eZ]at hp;split at hp
  .rename_i j hj
   cases hp;simp only[VR]at *
   rcases hv with hv|⟨g,b,h1,h2⟩
   .exact .inl hv
   .exact .inr ⟨g,b,by rw[hG j o (g9 hj)];exact h1,h2⟩
  .cases hp
 |c,.sd o,u,hp,hv=>by
  simp only[eZ]at hp;split at hp
  .rename_i j hj;cases hp;simp only[VR]at *;obtain⟨g,a,n,cap,h1,h2⟩:=hv;exact⟨g,a,n,cap,by rw[hG j o (g9 hj)];exact h1,h2⟩
  .cases hp
 |c,.vw o _ _ _,u,hp,hv=>by
  simp only[eZ]at hp;split at hp
  .rename_i j hj;cases hp;simp only[VR]at *;obtain⟨g,a,n,cap,h1,h2⟩:=hv;exact⟨g,a,n,cap,by rw[hG j o (g9 hj)];exact h1,h2⟩
  .cases hp
 |c,.bufc o _,u,hp,hv=>by
  simp only[eZ]at hp;split at hp
  .rename_i j hj;cases hp;simp only[VR]at *;obtain⟨g,a,n,cap,h1,h2⟩:=hv;exact⟨g,a,n,cap,by rw[hG j o (g9 hj)];exact h1,h2⟩
  .cases hp
 |c,.nv o _,u,hp,hv=>by
  simp only[eZ]at hp;split at hp
  .rename_i j hj;cases hp;simp only[VR]at *;obtain⟨g,a,n,cap,h1,h2⟩:=hv;exact⟨g,a,n,cap,by rw[hG j o (g9 hj)];exact h1,h2⟩
  .cases hp
 |c,.ne o _ _ _ _,u,hp,hv=>by
  simp only[eZ]at hp;split at hp
  .rename_i j hj;cases hp;simp only[VR]at *;obtain⟨g,b,n,cap,h1,h2⟩:=hv;exact⟨g,b,n,cap,by rw[hG j o (g9 hj)];exact h1,h2⟩
  .cases hp
 |c,.fn f vs,u,hp,hv=>by
  simp only[eZ]at hp;split at hp
  .rename_i us hu;cases hp;simp only[VR]at *;obtain⟨cs,h1,h2⟩:=hv;exact⟨cs,h1,CC hG hu h2⟩
  .cases hp
 |c,.agg vs,u,hp,hv=>by
  simp only[eZ]at hp;split at hp
  .rename_i us hu;cases hp;simp only[VR]at *;obtain⟨cs,h1,h2⟩:=hv;exact⟨cs,h1,CC hG hu h2⟩
  .cases hp
 |c,.tup vs,u,hp,hv=>by
  simp only[eZ]at hp;split at hp
  .rename_i us hu;cases hp;simp only[VR]at *;obtain⟨cs,h1,h2⟩:=hv;exact⟨cs,h1,CC hG hu h2⟩
  .cases hp
 |c,.cnd _ _,u,hp,_=>by simp[eZ]at hp
theorem CC(hG:∀(j o:Nat),ids[j]?=some o->G1[j]?=G[o]?):∀{cs:List Value} {vs us:List Va},hT ids vs=some us->VRs K h G cs vs->VRs K h G1 cs us
 |cs,[],us,hp,hv=>by simp only[hT]at hp;cases hp;simpa only[VRs]using hv
 |cs,v::vs,us,hp,hv=>by
  simp only[hT]at hp;split at hp
  .rename_i u us' h1 h2
   cases hp;simp only[VRs]at *;obtain⟨c,cs',e1,e2,e3⟩:=hv;exact⟨c,cs',e1,iY hG h1 e2,CC hG h2 e3⟩
  .cases hp
end
mutual
theorem uE(hG:∀(j:Nat) (g:Gh),G1[j]?=some g->G[ie ids base j]?=some g):∀{c:Value} {v:Va},VR K h G1 c v->VR K h G c (eH ids base v)
 |c,.p x,hv=>by simpa only[eH,VR]using hv
 |c,.nils,hv=>by simpa only[eH,VR]using hv
 |c,.full rows,hv=>by simpa only[eH,VR]using hv
 |c,.rp row,hv=>by simpa only[eH,VR]using hv
 |c,.nil,hv=>by simpa only[eH,VR]using hv
 |c,.raw v,hv=>by simpa only[eH,VR]using hv
 |c,.er v,hv=>by simpa only[eH,VR]using hv
 |c,.top,_=>by simp[eH,VR]
 |c,.ptr o a,hv=>by simp only[eH,VR]at *;obtain⟨g,b,h1,h2⟩:=hv;exact⟨g,b,hG o g h1,h2⟩
 |c,.cs o a,hv=>by simp only[eH,VR]at *;obtain⟨g,b,h1,h2⟩:=hv;exact⟨g,b,hG o g h1,h2⟩
 |c,.el o s i a,hv=>by simp only[eH,VR]at *;obtain⟨g,b,n,cap,h1,h2⟩:=hv;exact⟨g,b,n,cap,hG o g h1,h2⟩
 |c,.buf o,hv=>by simp only[eH,VR]at *;obtain⟨g,h1,h2⟩:=hv;exact⟨g,hG o g h1,h2⟩
 |c,.mp o,hv=>by simp only[eH,VR]at *;obtain⟨g,b,h1,h2⟩:=hv;exact⟨g,b,hG o g h1,h2⟩
 |c,.np o,hv=>by
  simp only[eH,VR]at *
  rcases hv with hv|⟨g,b,h1,h2⟩
  .exact .inl hv
  .exact .inr ⟨g,b,hG o g h1,h2⟩
 |c,.sd o,hv=>by simp only[eH,VR]at *;obtain⟨g,a,n,cap,h1,h2⟩:=hv;exact⟨g,a,n,cap,hG o g h1,h2⟩
 |c,.vw o _ _ _,hv=>by simp only[eH,VR]at *;obtain⟨g,a,n,cap,h1,h2⟩:=hv;exact⟨g,a,n,cap,hG o g h1,h2⟩
 |c,.bufc o _,hv=>by simp only[eH,VR]at *;obtain⟨g,a,n,cap,h1,h2⟩:=hv;exact⟨g,a,n,cap,hG o g h1,h2⟩
 |c,.nv o _,hv=>by simp only[eH,VR]at *;obtain⟨g,a,n,cap,h1,h2⟩:=hv;exact⟨g,a,n,cap,hG o g h1,h2⟩
 |c,.ne o _ _ _ _,hv=>by simp only[eH,VR]at *;obtain⟨g,b,n,cap,h1,h2⟩:=hv;exact⟨g,b,n,cap,hG o g h1,h2⟩
 |c,.fn f vs,hv=>by simp only[eH,VR]at *;obtain⟨cs,h1,h2⟩:=hv;exact⟨cs,h1,Cy hG h2⟩
 |c,.agg vs,hv=>by simp only[eH,VR]at *;obtain⟨cs,h1,h2⟩:=hv;exact⟨cs,h1,Cy hG h2⟩
 |c,.tup vs,hv=>by simp only[eH,VR]at *;obtain⟨cs,h1,h2⟩:=hv;exact⟨cs,h1,Cy hG h2⟩
 |c,.cnd _ _,_=>by simp[eH,VR]
theorem Cy(hG:∀(j:Nat) (g:Gh),G1[j]?=some g->G[ie ids base j]?=some g):∀{cs:List Value} {vs:List Va},VRs K h G1 cs vs->VRs K h G cs (iM ids base vs)
 |cs,[],hv=>by simpa only[iM,VRs]using hv
 |cs,v::vs,hv=>by
  simp only[iM,VRs]at *;obtain⟨c,cs',e1,e2,e3⟩:=hv;exact⟨c,cs',e1,uE hG e2,Cy hG e3⟩
end
mutual
theorem sT(hG:∀(j o:Nat),ids[j]?=some o->G1[j]?=G[o]?):∀{c:Value} {v u:Va},gE ids v=some u->VR K h G c v->VR K h G1 c u
 |c,.nils,u,hp,hv=>by simp only[gE]at hp;cases hp;simp only[VR,DR]at *;exact .inl ⟨⟨none,hv⟩,trivial⟩
 |c,.full r,u,hp,hv=>by simp only[gE]at hp;cases hp;simp only[VR]at *;exact hv.1
 |c,.agg vs,u,hp,hv=>by
  simp only[gE]at hp;split at hp
  .rename_i us h1
   cases hp;simp only[VR]at *;obtain⟨cs,e1,e2⟩:=hv;exact⟨cs,e1,kg hG h1 e2⟩
  .cases hp
 |c,.p _,u,hp,hv=>by unfold gE at hp;exact iY hG hp hv
 |c,.rp _,u,hp,hv=>by unfold gE at hp;exact iY hG hp hv
 |c,.ptr _ _,u,hp,hv=>by unfold gE at hp;exact iY hG hp hv
 |c,.cs _ _,u,hp,hv=>by unfold gE at hp;exact iY hG hp hv
 |c,.el _ _ _ _,u,hp,hv=>by unfold gE at hp;exact iY hG hp hv
 |c,.buf _,u,hp,hv=>by unfold gE at hp;exact iY hG hp hv
 |c,.mp _,u,hp,hv=>by unfold gE at hp;exact iY hG hp hv
 |c,.np _,u,hp,hv=>by unfold gE at hp;exact iY hG hp hv
 |c,.sd _,u,hp,hv=>by unfold gE at hp;exact iY hG hp hv
 |c,.bufc _ _,u,hp,hv=>by unfold gE at hp;exact iY hG hp hv
 |c,.nv _ _,u,hp,hv=>by unfold gE at hp;exact iY hG hp hv
 |c,.ne _ _ _ _ _,u,hp,hv=>by unfold gE at hp;exact iY hG hp hv
 |c,.vw _ _ _ _,u,hp,hv=>by unfold gE at hp;exact iY hG hp hv
 |c,.fn _ _,u,hp,hv=>by unfold gE at hp;exact iY hG hp hv
 |c,.tup _,u,hp,hv=>by unfold gE at hp;exact iY hG hp hv
 |c,.nil,u,hp,hv=>by unfold gE at hp;exact iY hG hp hv
 |c,.cnd _ _,u,hp,hv=>by unfold gE at hp;exact iY hG hp hv
 |c,.raw _,u,hp,hv=>by unfold gE at hp;exact iY hG hp hv
 |c,.er _,u,hp,hv=>by unfold gE at hp;exact iY hG hp hv
 |c,.top,u,hp,hv=>by unfold gE at hp;exact iY hG hp hv
theorem kg(hG:∀(j o:Nat),ids[j]?=some o->G1[j]?=G[o]?):∀{cs:List Value} {vs us:List Va},ja ids vs=some us->VRs K h G cs vs->VRs K h G1 cs us
 |cs,[],us,hp,hv=>by simp only[ja]at hp;cases hp;simpa only[VRs]using hv
 |cs,v::vs,us,hp,hv=>by
  simp only[ja]at hp;split at hp
  .rename_i u us' h1 h2
   cases hp;simp only[VRs]at *;obtain⟨c,cs',e1,e2,e3⟩:=hv;exact⟨c,cs',e1,sT hG h1 e2,kg hG h2 e3⟩
  .cases hp
end
theorem Aj(hG:∀(j o:Nat),ids[j]?=some o->G1[j]?=G[o]?){g:Gh}{x y:Ob}(hp:kf ids x=some y)(hx:ObR K h G g x):ObR K h G1 g y:=by
 cases x with
 |cells T vs =>
  simp only[kf]at hp;split at hp
  .rename_i us hu
   cases hp;obtain⟨b,cs,h1,h2,h3⟩:=hx;exact⟨b,cs,h1,h2,CC hG hu h3⟩
  .cases hp
 |it _ _ _=>simp[kf]at hp
 |nst f T sz k p rows st =>
  simp only[kf]at hp;split at hp
  .rename_i j hj
   cases hp;obtain⟨h0,h1,gp,vs,h2,h3⟩:=hx;exact⟨h0,h1,gp,vs,by rw[hG j p (g9 hj)];exact h2,h3⟩
  .cases hp
 |_=>simp only[kf]at hp;cases hp;exact hx
theorem lR{x y:Ob}(hp:kf ids x=some y):y.kept=x.kept:=by
 cases x with
 |cells T vs =>
  simp only[kf]at hp;split at hp
  .cases hp;rfl
  .cases hp
 |it _ _ _=>simp[kf]at hp
 |nst f T sz k p rows st =>
  simp only[kf]at hp;split at hp
  .cases hp;rfl
  .cases hp
 |_=>simp only[kf]at hp;cases hp;rfl
theorem Bc(hG:∀(j:Nat) (g:Gh),G1[j]?=some g->G[ie ids base j]?=some g){g:Gh}{x:Ob}(hx:ObR K h G1 g x):ObR K h G g (xh ids base x):=by
 cases x with
 |cells T vs =>
  obtain⟨b,cs,h1,h2,h3⟩:=hx;exact⟨b,cs,h1,h2,Cy hG h3⟩
 |it _ _ _=>trivial
 |nst f T sz k p rows st =>
  obtain⟨h0,h1,gp,vs,h2,h3⟩:=hx;exact⟨h0,h1,gp,vs,hG p gp h2,h3⟩
 |_=>exact hx
end
theorem uF(ids:List Nat)(base:Nat)(x:Ob):(xh ids base x).kept=x.kept:=by cases x <;> rfl
theorem CO(ids:List Nat)(base:Nat):∀(X:List Ob) (j:Nat),(fO ids base X)[j]?=(X[j]?).map (xh ids base)
 |[],j=>by simp[fO]
 |x::X,0=>by simp[fO]
 |x::X,j+1=>by simp only[fO,getElem?_cons_succ];exact CO ids base X j
theorem rU(ids:List Nat)(base:Nat):∀X:List Ob,(fO ids base X).length=X.length
 |[]=>rfl
 |x::X=>by simp[fO,rU ids base X]
theorem FX{ids:List Nat}{H:List Ob}:∀{is:List Nat} {X:List Ob},ii ids H is=some X->X.length=is.length/\∀(j i:Nat),is[j]?=some i->∃x,X[j]?=some x/\kf ids (ed H i)=some x
 |[],X,h=>by simp only[ii]at h;cases h;simp
 |i::is,X,h=>by
  simp only[ii]at h;split at h
  .rename_i x X' h1 h2
   cases h;obtain⟨h3,h4⟩:=FX h2;refine⟨by simp[h3],fun j k hj=>?_⟩
   cases j with
   |zero=>simp at hj;subst hj;exact⟨x,rfl,h1⟩
   |succ j=>simpa using h4 j k (by simpa using hj)
  .cases h
theorem CH:∀{H:List Ob} {o:Nat} {x:Ob},H[o]?=some x->ed H o=x
 |[],_,_,h=>by simp at h
 |y::H,0,x,h=>by simp at h;simp[ed,h]
 |y::H,o+1,x,h=>by simp only[ed];exact CH (by simpa using h)
theorem mh{X:List Ob}{o:Nat}{x:Ob}(h:X[o]?=some x)(hk:x.kept=true):en (kinds X) o=true:=by
 induction X generalizing o with
 |nil=>simp at h
 |cons y X ih =>
  cases o with
  |zero=>simp at h;subst h;simp[kinds,en,hk]
  |succ o=>simp only[kinds,en];exact ih (by simpa using h)

section
variable {P:Program} {kl:List Bool} {n:Nat} {B:Bs} {K:dY->List Ob->Prop} {E:dY} {H:List Ob} {ops:Array Oper}

theorem jJ{o:Oper}{c:Call}{fop:Operand}{f:FuncId}{caps args:List Va}{X:List Ob}{Post:Va->List Ob->Prop}(ids:List Nat)(hs:Does P f args X Post)(e1:o.op=.call c)(e3:c.callee=.value fop)(hk:opOk true E fop/\allOk true E c.args.toList)(e4:opnd E fop=.fn f caps)
  (hp:∀{K:Nat->Prop} {h:Array Obj} {G G1:List Gh} {cs:List Value},(∀(j o:Nat),ids[j]?=some o->G1[j]?=G[o]?)->VRs K h G cs (opnds E c.args.toList++caps)->VRs K h G1 cs args) (hXs:ii ids H ids=some X) (hids:iS H.length ids=true) {a:Act} {w:World} {Q:Exit->Act->World->Prop} {K':Act->World->Prop} (hR:Rel (cx P kl n B) E H a w)
  (hK':∀c' r X' w',Post r X'->r.ok->RelV (cx P kl n B) (fF (fg ids H) E) (eV (fc (fg ids H) H) ids (fO ids H.length X')) c' (eH ids H.length r) a w'->K' (a.put o.dst c') w'):o.wp P a w K' Q:=by
 obtain⟨Kk,G,hX,hS,hE,hdf,hn,hkp⟩:=hR;have hvf:=zw hE rfl fop hk.1;rw[e4]at hvf;simp only[VR]at hvf;obtain⟨cs,hcs,hcv⟩:=hvf;have hargs:=vf hE rfl c.args.toList hk.2;obtain⟨hnd,hlt⟩:=Ge hids;obtain⟨hXl,hXg⟩:=FX hXs
 -- the ghosts that are handed over
 have hGl:∀i∈ids,i<G.length:=fun i hi=>by rw[hS.len];exact hlt i hi
 obtain⟨Gs,hGsl,hGs⟩:∃Gs:List Gh,Gs.length=ids.length/\∀(j i:Nat),ids[j]?=some i->Gs[j]?=G[i]?:=by
  refine⟨ids.map fun i=>G.getD i ⟨none,undef,[]⟩,by simp,fun j i hj=>?_⟩;have:=hGl i (mem_of_getElem? hj);simp[hj,getElem?_eq_getElem this]
 have inv:∀{j:Nat} {g:Gh},Gs[j]?=some g->∃i,ids[j]?=some i/\G[i]?=some g:=by
  intro j g hg;have hj:=(List.getElem?_eq_some_iff.1 hg).1;rw[hGsl]at hj;exact⟨ids[j],getElem?_eq_getElem hj,by rw[<-hGs j _ (getElem?_eq_getElem hj)];exact hg⟩
 have hSs:St Kk Gs X w:=by
  refine⟨by rw[hGsl,hXl],hS.kb,fun j g b hg hb=>?_,fun j j' g g' b hg hg' hb hb'=>?_,fun j g x hg hx=>?_,hS.tb⟩
  .obtain⟨i,_,hi⟩:=inv hg
   exact hS.gbo i g b hi hb
  .obtain⟨i,hij,hi⟩:=inv hg
   obtain⟨i',hij',hi'⟩:=inv hg';obtain rfl:=hS.ijo i i' g g' b hi hi' hb hb';exact(getElem?_inj (List.getElem?_eq_some_iff.1 hij).1 hnd).1 (hij.trans hij'.symm)
  .obtain⟨i,hij,hi⟩:=inv hg
   obtain⟨x',hx',hrn⟩:=hXg j i hij
   rw[hx]at hx';cases hx'
   have hil:=hlt i (mem_of_getElem? hij)
   have hoi:H[i]?=some (ed H i)∨ed H i=.gone:=by
    rcases Classical.em (ed H i=.gone)with e|e
    .exact .inr e
    .exact .inl (zn rfl e)
   rcases hoi with hoi|hoi
   .exact Aj (fun j o h=>hGs j o h) hrn (hS.ob i g _ hi hoi)
   .rw[hoi]at hrn;simp only[kf]at hrn;cases hrn;trivial
 have hall:=hp (fun j o h=>hGs j o h) (hargs.append hcv);unfold Oper.wp;rw[BM e1 e3 hcs hs.1];simp only[Oper.upon];refine(hs.2 Kk Gs w _ hSs hall).mono ?_;rintro e w' ⟨c',r,X',K1,G1,rfl,hpost,hX1,hS1,hv,hkp1⟩
 have hGl1:ids.length<=G1.length:=by rw[<-hGsl];exact hX1.glen
 have hXl1:ids.length<=X'.length:=by rw[<-hS1.len];exact hGl1
 let G2:=eV G ids G1
 -- how the ghosts lie in the new list
 have g2new:∀(j:Nat) (g:Gh),G1[j]?=some g->G2[ie ids H.length j]?=some g:=by
  intro j g hg
  rcases Nat.lt_or_ge j ids.length with h|h
  .rw[oN (getElem?_eq_getElem h)]
   show(eV G ids G1)[_]?=_
   rw[BG hnd hGl hGl1 (getElem?_eq_getElem h)];exact hg
  .rw[uG h,<-hS.len]
   show(eV G ids G1)[_]?=_
   rw[Hz h];exact hg
 have g2cases:∀{o:Nat} {g:Gh},G2[o]?=some g->(∃j:Nat,ids[j]?=some o/\G1[j]?=some g)∨(o∉ids/\o<G.length/\G[o]?=some g)∨(∃j:Nat,ids.length<=j/\o=G.length+(j-ids.length)/\G1[j]?=some g):=fun h=>Ip hnd hGl hGl1 h
 have old:∀{j:Nat} {g:Gh} {b:Nat},G1[j]?=some g->own g b->(∃(i:Nat) (g0:Gh),i∈ids/\G[i]?=some g0/\own g0 b)∨w.heap.size<=b:=by
  intro j g b hg hb
  rcases hX1.gown j g b hg hb with⟨j0,g0,h1,h2⟩|h
  .obtain⟨i,hij,hi⟩:=inv h1
   exact .inl ⟨i,g0,mem_of_getElem? hij,hi,h2⟩
  .exact .inr h
 have fr:∀b,b<w.heap.size->(∀(o:Nat) (g:Gh),o∈ids->G[o]?=some g->¬ own g b)->w'.heap[b]?=w.heap[b]?:=fun b hb hn=>hX1.frame b hb fun j g hg=>by
  obtain⟨i,hij,hi⟩:=inv hg;exact hn i g (mem_of_getElem? hij) hi
 have hMk:Mn Kk K1 w.heap w'.heap:=⟨hX1.k,fun b hb=>fr b (hS.kb b hb) fun o g _ hg e=>(hS.gbo o g b hg e).2 hb⟩
 have same:∀{j i:Nat},ids[j]?=some i->(ed H i).kept=true->G1[j]?=G[i]?:=by
  intro j i hj hkt;obtain⟨x,hx,hrn⟩:=hXg j i hj;have hk:en (kinds X) j=true:=mh hx (by rw[lR hrn];exact hkt);have hjl:=(List.getElem?_eq_some_iff.1 hj).1;have hgs:Gs[j]?=some Gs[j]:=getElem?_eq_getElem (by rw[hGsl];exact hjl);rw[hX1.gsame j _ hk hgs,<-hGs j i hj,hgs]
 have hMg:Mg (fg ids H) G G2:=by
  intro o g ho hg;have hol:=(List.getElem?_eq_some_iff.1 hg).1
  by_cases hin:o∈ids
  .obtain⟨j,hj⟩:=getElem?_of_mem hin
   show(eV G ids G1)[o]?=_
   rw[BG hnd hGl hGl1 hj,same hj ?_]
   .exact hg
   .simpa [fg,hin]using ho
  .show(eV G ids G1)[o]?=_
   rw[BH hin hol];exact hg
 let H2:=eV (fc (fg ids H) H) ids (fO ids H.length X')
 have hHl:∀i∈ids,i<(fc (fg ids H) H).length:=fun i hi=>by rw[nH,length_map];exact hlt i hi
 have hS2:St K1 G2 H2 w':=by
  refine⟨?_,hS1.kb,fun o g b hg hb=>?_,fun o o' g g' b hg hg' hb hb'=>?_,fun o g x hg hx=>?_,hS1.tb⟩
  .show(eV G ids G1).length=(eV (fc (fg ids H) H) ids (fO ids H.length X')).length
   rw[BZ hGl1,BZ (by rw[rU];exact hXl1),nH,length_map,rU,hS.len,hS1.len]
  .rcases g2cases hg with⟨j,_,h⟩|⟨ho,hol,h⟩|⟨j,_,_,h⟩
   .exact hS1.gbo j g b h hb
   .have:=hS.gbo o g b h hb
    refine⟨Nat.lt_of_lt_of_le this.1 hX1.size,fun hk=>?_⟩
    rcases hX1.knew b hk with h'|⟨j0,g0,h1,h2⟩|h'
    .exact this.2 h'
    .obtain⟨i,hij,hi⟩:=inv h1
     exact ho (hS.ijo o i g g0 b h hi hb h2 ▸ mem_of_getElem? hij)
    .omega
   .exact hS1.gbo j g b h hb
  .have sep:∀{o:Nat} {g g':Gh} {b j:Nat},o∉ids->G[o]?=some g->own g b->G1[j]?=some g'->own g' b->False:=by
    intro o g g' b j ho h hb h' hb';have hbs:=(hS.gbo o g b h hb).1
    rcases old h' hb' with⟨i,g0,hi,h0,hb0⟩|h0
    .exact ho (hS.ijo o i g g0 b h h0 hb hb0 ▸ hi)
    .omega
   rcases g2cases hg with⟨j,hj,h⟩|⟨ho,hol,h⟩|⟨j,hj,ho,h⟩ <;> rcases g2cases hg' with⟨j',hj',h'⟩|⟨ho',hol',h'⟩|⟨j',hj',ho',h'⟩
   .obtain rfl:=hS1.ijo j j' g g' b h h' hb hb'
    rw[hj]at hj';cases hj';rfl
   .exact(sep ho' h' hb' h hb).elim
   .obtain rfl:=hS1.ijo j j' g g' b h h' hb hb'
    have:=(List.getElem?_eq_some_iff.1 hj).1;omega
   .exact(sep ho h hb h' hb').elim
   .exact hS.ijo o o' g g' b h h' hb hb'
   .exact(sep ho h hb h' hb').elim
   .obtain rfl:=hS1.ijo j j' g g' b h h' hb hb'
    have:=(List.getElem?_eq_some_iff.1 hj').1;omega
   .exact(sep ho' h' hb' h hb).elim
   .obtain rfl:=hS1.ijo j j' g g' b h h' hb hb'
    omega
  .have hcx:=Ip hnd hHl (by rw[rU];exact hXl1) hx
   have hlenE:(fc (fg ids H) H).length=G.length:=by rw[nH,length_map,hS.len]
   have new:∀{j:Nat},G1[j]?=some g->(fO ids H.length X')[j]?=some x->ObR K1 w'.heap G2 g x:=by
    intro j h1 h2;rw[CO]at h2
    cases hy:X'[j]? with
    |none=>rw[hy]at h2;cases h2
    |some y =>
     rw[hy]at h2;simp at h2;subst h2;exact Bc g2new (hS1.ob j g y h1 hy)
   rcases g2cases hg with⟨j,hj,h⟩|⟨ho,hol,h⟩|⟨j,hj,ho,h⟩
   .rcases hcx with⟨j',hj',h'⟩|⟨ho',_,_⟩|⟨j',hj',ho',h'⟩
    .have:=(getElem?_inj (List.getElem?_eq_some_iff.1 hj).1 hnd).1 (hj.trans hj'.symm)
     subst this;exact new h h'
    .exact absurd (mem_of_getElem? hj) ho'
    .have:=hGl o (mem_of_getElem? hj)
     omega
   .rcases hcx with⟨j',hj',h'⟩|⟨ho',_,h'⟩|⟨j',hj',ho',h'⟩
    .exact absurd (mem_of_getElem? hj') ho
    .rw[nH,getElem?_map]at h'
     cases hy:H[o]? with
     |none=>rw[hy]at h';cases h'
     |some y =>
      rw[hy]at h';simp at h';subst h';refine ObR.prune hMk hMg (fun b hb=>fr b (hS.gbo o g b h hb).1 fun i g' hi hg' e=>?_) (hS.ob o g y h hy);have:=hS.ijo o i g g' b h hg' hb e;subst this;exact ho hi
    .omega
   .rcases hcx with⟨j',hj',h'⟩|⟨ho',hol',_⟩|⟨j',hj',ho',h'⟩
    .have:=hlt o (mem_of_getElem? hj')
     rw[<-hS.len]at this;omega
    .omega
    .have:j=j':=by omega
     subst this;exact new h h'
 have hX2:Ext (en kl) B.K0 B.G0 B.w0 K1 G2 w':=by
  refine hX.trans ⟨hX1.os,hX1.tape,hX1.output,hX1.size,hX1.k,fun b hb=>?_,?_,fun o g b hg hb=>?_,fun o g0 ho h0=>?_,fun b hb hn=>fr b hb fun o g _ hg=>hn o g hg⟩
  .rcases hX1.knew b hb with h'|⟨j0,g0,h1,h2⟩|h'
   .exact .inl h'
   .obtain⟨i,_,hi⟩:=inv h1
    exact .inr (.inl ⟨i,g0,hi,h2⟩)
   .exact .inr (.inr h')
  .show G.length<=(eV G ids G1).length
   rw[BZ hGl1];omega
  .have up:∀{j:Nat},G1[j]?=some g->(∃(o0:Nat) (g0:Gh),G[o0]?=some g0/\own g0 b)∨w.heap.size<=b:=fun h=>(old h hb).imp (fun⟨i,g0,_,h1,h2⟩=>⟨i,g0,h1,h2⟩) id
   rcases g2cases hg with⟨j,_,h⟩|⟨_,_,h⟩|⟨j,_,_,h⟩
   .exact up h
   .exact .inl ⟨o,g,h,hb⟩
   .exact up h
  .refine hMg o g0 ?_ h0
   obtain⟨x,hx,hkt⟩:=hkp o ho
   have:(ed H o).kept=true:=by rw[CH hx];exact hkt
   simp[fg,this]
 have hRV:RelV (cx P kl n B) (fF (fg ids H) E) H2 c' (eH ids H.length r) a w':=by
  refine⟨K1,G2,hX2,hS2,fun m=>by rw[qh];exact VR.prune hMk hMg _ _ (hE m),hdf,hn,fun o ho=>?_,uE g2new hv⟩;obtain⟨x,hx,hkt⟩:=hkp o ho;have hol:=(List.getElem?_eq_some_iff.1 hx).1
  by_cases hin:o∈ids
  .obtain⟨j,hj⟩:=getElem?_of_mem hin
   obtain⟨y,hy,hrn⟩:=hXg j o hj;have hk:en (kinds X) j=true:=mh hy (by rw[lR hrn,CH hx];exact hkt);obtain⟨y',hy',hkt'⟩:=hkp1 j hk;refine⟨xh ids H.length y',?_,by rw[uF];exact hkt'⟩
   show(eV _ ids _)[o]?=_
   rw[BG hnd hHl (by rw[rU];exact hXl1) hj,CO,hy'];rfl
  .refine⟨x.prune (fg ids H),?_,cw hkt⟩
   show(eV _ ids _)[o]?=_
   rw[BH hin (by rw[nH,length_map];exact hol),nH,getElem?_map,hx];rfl
 exact hK' c' r X' w' hpost hv.ok hRV
theorem xC{o:Oper}{c:Call}{fop:Operand}{f:FuncId}{caps args:List Va}{X:List Ob}{Post:Va->List Ob->Prop}(ids:List Nat)(hs:Does P f args X Post)(e1:o.op=.call c)(e3:c.callee=.value fop)(hk:opOk true E fop/\allOk true E c.args.toList)(e4:opnd E fop=.fn f caps)
  (hp:ja ids (opnds E c.args.toList++caps)=some args) (hXs:ii ids H ids=some X) (hids:iS H.length ids=true) {a:Act} {w:World} {Q:Exit->Act->World->Prop} {K':Act->World->Prop} (hR:Rel (cx P kl n B) E H a w)
  (hK':∀c' r X' w',Post r X'->r.ok->RelV (cx P kl n B) (fF (fg ids H) E) (eV (fc (fg ids H) H) ids (fO ids H.length X')) c' (eH ids H.length r) a w'->K' (a.put o.dst c') w'):o.wp P a w K' Q :=
 jJ ids hs e1 e3 hk e4 (fun hG hv=>kg hG hp hv) hXs hids hR hK'
theorem dz{o:Oper}{l:List Oper}{f:FuncId}{av args:List Va}{X:List Ob}{Post:Va->List Ob->Prop}(ids:List Nat)(hs:Does P f args X Post)(ha:Is (rD E o) (some (f,av)))(hp:Is (ja ids av) (some args))(hXs:Is (ii ids H ids) (some X))(hids:iS H.length ids=true)(hok:fX n true E o)
  (cont:∀r X',Post r X'->r.ok->eS P kl n B ops K (eL P kl n ops.toList l ⟨eB (fF (fg ids H) E) o.dst (eH ids H.length r),eV (fc (fg ids H) H) ids (fO ids H.length X'),True⟩)):Rg P kl n B ops (o::l) E H K:=by
 obtain⟨c,fop,caps,e1,e2,e3,e4,rfl⟩:=B7 ha;obtain⟨hd,hk⟩:=ld hok e1 e3;intro hB a w Q hR hKK
 refine wpList_plain e2 fun K' hK'=>?_
 exact xC ids hs e1 e3 hk e4 hp hXs hids hR fun c' r X' w' h1 h2 h3=>hK' _ _ (Rg.run (cont r X' h1 h2) hB _ _ _ (h3.put o.dst (zM hd)) hKK)
end
mutual
def iU(o:Nat)(r:Nat×List (List Dt)):Va->Va
 |.buf i=>if i=o then .p (.l r.2)else .buf i
 |.el i s j a=>if i=o then .top else .el i s j a
 |.ptr i a=>if i=o then .top else .ptr i a
 |.cs i a=>if i=o then .top else .cs i a
 |.mp i=>if i=o then .top else .mp i
 |.np i=>if i=o then .top else .np i
 |.sd i=>if i=o then .top else .sd i
 |.vw i s j n=>if i=o then(if s=r.1 then .p (.l ((r.2.drop j).take n))else .top)else .vw i s j n
 |.bufc i s=>if i=o then .top else .bufc i s
 |.nv i j=>if i=o then .top else .nv i j
 |.ne i s j l a=>if i=o then .top else .ne i s j l a
 |.fn f vs=>.fn f (kI o r vs)
 |.agg vs=>.agg (kI o r vs)
 |.tup vs=>.tup (kI o r vs)
 |.cnd c v=>if v.all (· != o)then .cnd c v else .top
 |v=>v
def kI(o:Nat)(r:Nat×List (List Dt)):List Va->List Va
 |[]=>[]
 |v::vs=>iU o r v::kI o r vs
end
def qO(o:Nat)(r:Nat×List (List Dt)):dY->dY
 |[]=>[]
 |(k,v)::E=>(k,iU o r v)::qO o r E
def my(o:Nat)(r:Nat×List (List Dt)):Ob->Ob
 |.cells T vs=>.cells T (kI o r vs)
 |.it i cl s=>if i=o then .gone else .it i cl s
 |.nst f T sz k p rows st=>if p=o then(bif f then .lost else .gone)else .nst f T sz k p rows st
 |x=>x
def kJ(o:Nat)(r:Nat×List (List Dt)):List Ob->List Ob
 |[]=>[]
 |x::H=>my o r x::kJ o r H
theorem qN{o:Nat}{r:Nat×List (List Dt)}{x:Ob}(h:x.kept=true):(my o r x).kept=true:=by
 cases x <;> first|rfl|exact h|skip
 case it=>cases h
 case nst g T sz k p rows st =>
  simp only[my];split
  .simp only[Ob.kept]at h;subst h;rfl
  .exact h
theorem mx(o:Nat)(r:Nat×List (List Dt)):∀(E:dY) (m:Nat),eC (qO o r E) m=iU o r (eC E m)
 |[],m=>by simp[qO,eC,iU]
 |(k,v)::E,m=>by
  simp only[qO,eC];split
  .rfl
  .exact mx o r E m
theorem HE(o:Nat)(r:Nat×List (List Dt)):∀(H:List Ob) (m:Nat),(kJ o r H)[m]?=(H[m]?).map (my o r)
 |[],m=>by simp[kJ]
 |x::H,0=>by simp[kJ]
 |x::H,m+1=>by simp only[kJ,getElem?_cons_succ];exact HE o r H m
theorem Ii(o:Nat)(r:Nat×List (List Dt)):∀H:List Ob,(kJ o r H).length=H.length
 |[]=>rfl
 |x::H=>by simp[kJ,Ii o r H]
theorem HF{K:Nat->Prop}{h:Array Obj}{sz:Nat}:∀{a:Nat} {xs:List Value} {rs:List (List Dt)},DRss K h sz xs rs->DRss K h sz (xs.drop (a*sz)) (rs.drop a)
 |0,_,_,hd=>by simpa using hd
 |a+1,xs,[],hd=>by simp only[DRss]at hd;subst hd;simp[DRss]
 |a+1,xs,r::rs,hd=>by
  simp only[DRss]at hd;obtain⟨u,v,rfl,h1,h2,h3⟩:=hd;have hl:=h2.length;rw[drop_succ_cons,Nat.add_mul,Nat.one_mul,Nat.add_comm,<-drop_drop,show sz=u.length by rw[hl,h1],drop_left];have:=HF (a:=a) h3
  rwa [show u.length=sz by rw[hl,h1]]
theorem HG{K:Nat->Prop}{h:Array Obj}{sz:Nat}:∀{n:Nat} {xs:List Value} {rs:List (List Dt)},DRss K h sz xs rs->DRss K h sz (xs.take ((rs.take n).length*sz)) (rs.take n)
 |0,_,_,hd=>by simp[DRss]
 |n+1,xs,[],hd=>by simp[DRss]
 |n+1,xs,r::rs,hd=>by
  simp only[DRss]at hd;obtain⟨u,v,rfl,h1,h2,h3⟩:=hd;have hl:=h2.length;simp only[take_succ_cons,length_cons,DRss];refine⟨u,v.take ((rs.take n).length*sz),?_,h1,h2,HG h3⟩;rw[Nat.add_mul,Nat.one_mul,Nat.add_comm,take_append,take_of_length_le (by omega)]
  congr 2
  omega
theorem yU{K:Nat->Prop}{h:Array Obj}{c:Value}{blk:Option Nat}{ad:Option Addr}{N cap sz a n:Nat}{r:List (List Dt)}(hd:DR K h (.slice ad N cap) (.l r))(hz:∀x∈r,x.length=sz)(hv:G5 c blk ad N cap sz a n):DR K h c (.l ((r.drop a).take n)):=by
 obtain⟨hle,ad',cap',rfl,hcap,hcc,hpos⟩:=hv;simp only[DR]at hd|-
 rcases hd with⟨⟨_,h0⟩,rfl⟩|⟨b,off,cp,cs,T,fr,sz',vs,h1,h2,h3,h4,h5,h6,h7⟩
 .cases h0
  obtain rfl:n=0:=by omega
  obtain rfl:a=0:=by omega
  obtain rfl:cap'=0:=by omega
  exact .inl ⟨⟨ad',rfl⟩,by simp⟩
 .cases h1
  rcases Nat.eq_zero_or_pos cap' with rfl|hn
  .obtain rfl:n=0:=by omega
   exact .inl ⟨⟨ad',rfl⟩,by simp⟩
  .obtain⟨b',_,hb,rfl⟩:=hpos hn
   have hbo:b=b'/\off=0:=by injection hb with hb;injection hb with e1 e2 _;exact⟨e1,e2⟩
   obtain⟨rfl,rfl⟩:=hbo
   have hsz:r=[]∨sz'=sz:=by
    cases r with
    |nil=>exact .inl rfl
    |cons x r =>
     simp only[DRss]at h7;obtain⟨_,_,_,h8,_⟩:=h7;exact .inr (by rw[<-h8];exact hz x (by simp))
   rcases hsz with rfl|rfl
   .obtain rfl:n=0:=by simp at hle;omega
    exact .inr ⟨b,a*sz,cap',cs,T,fr,sz',[],by simp,h2,h3,by simp,by simp,by simp,by simp[DRss]⟩
   have hlen:((r.drop a).take n).length=n:=by rw[length_take,length_drop];omega
   refine .inr ⟨b,a*sz',cap',cs,T,fr,sz',(vs.drop (a*sz')).take (n*sz'),by rw[hlen],h2,h3,by omega,by omega,fun j v hj=>?_,?_⟩
   .rw[getElem?_take]at hj
    split at hj
    .rw[getElem?_drop]at hj
     have:=h6 _ _ hj
     rwa [Nat.zero_add]at this
    .cases hj
   .have:=HG (n:=n) (HF (a:=a) h7)
    rwa [hlen]at this
section
variable {K K':Nat->Prop} {h:Array Obj} {G G':List Gh} {o:Nat} {r:Nat×List (List Dt)}
mutual
theorem tO(hM:∀b,K b->K' b)(hG:Mg (· != o) G G')(ho:∀g,G[o]?=some g->DR K' h g.sv (.l r.2))(hz:∀x∈r.2,x.length=r.1):∀{c:Value} {v:Va},VR K h G c v->VR K' h G' c (iU o r v)
 |c,.p x,hv=>VR.keep (f:=(· != o)) ⟨hM,fun _ _=>rfl⟩ hG c (.p x) rfl hv
 |c,.nils,hv=>VR.keep (f:=(· != o)) ⟨hM,fun _ _=>rfl⟩ hG c .nils rfl hv
 |c,.full rows,hv=>VR.keep (f:=(· != o)) ⟨hM,fun _ _=>rfl⟩ hG c (.full rows) rfl hv
 |c,.rp row,hv=>VR.keep (f:=(· != o)) ⟨hM,fun _ _=>rfl⟩ hG c (.rp row) rfl hv
 |c,.nil,hv=>VR.keep (f:=(· != o)) ⟨hM,fun _ _=>rfl⟩ hG c .nil rfl hv
 |c,.raw v,hv=>VR.keep (f:=(· != o)) ⟨hM,fun _ _=>rfl⟩ hG c (.raw v) rfl hv
 |c,.er v,hv=>VR.keep (f:=(· != o)) ⟨hM,fun _ _=>rfl⟩ hG c (.er v) rfl hv
 |c,.top,_=>by simp[iU,VR]
 |c,.buf i,hv=>by
  simp only[iU];split
  .rename_i e
   subst e;simp only[VR]at *;obtain⟨g,hg,rfl,_⟩:=hv;exact ho g hg
  .rename_i e
   exact VR.keep (f:=(· != o)) ⟨hM,fun _ _=>rfl⟩ hG c (.buf i) (by simpa [Va.all]using e) hv
 |c,.el i s j a,hv=>by
  simp only[iU];split
  .simp[VR]
  .rename_i e
   exact VR.keep (f:=(· != o)) ⟨hM,fun _ _=>rfl⟩ hG c (.el i s j a) (by simpa [Va.all]using e) hv
 |c,.ptr i a,hv=>by
  simp only[iU];split
  .simp[VR]
  .rename_i e
   exact VR.keep (f:=(· != o)) ⟨hM,fun _ _=>rfl⟩ hG c (.ptr i a) (by simpa [Va.all]using e) hv
 |c,.cs i a,hv=>by
  simp only[iU];split
  .simp[VR]
  .rename_i e
   exact VR.keep (f:=(· != o)) ⟨hM,fun _ _=>rfl⟩ hG c (.cs i a) (by simpa [Va.all]using e) hv
 |c,.mp i,hv=>by
  simp only[iU];split
  .simp[VR]
  .rename_i e
   exact VR.keep (f:=(· != o)) ⟨hM,fun _ _=>rfl⟩ hG c (.mp i) (by simpa [Va.all]using e) hv
 |c,.np i,hv=>by
  simp only[iU];split
  .simp[VR]
  .rename_i e
   exact VR.keep (f:=(· != o)) ⟨hM,fun _ _=>rfl⟩ hG c (.np i) (by simpa [Va.all]using e) hv
 |c,.sd i,hv=>by
  simp only[iU];split
  .simp[VR]
  .rename_i e
   exact VR.keep (f:=(· != o)) ⟨hM,fun _ _=>rfl⟩ hG c (.sd i) (by simpa [Va.all]using e) hv
 |c,.vw i s j n,hv=>by
  simp only[iU];split
  .rename_i e
   subst e;split
   .rename_i e2
    subst e2;simp only[VR]at hv|-;obtain⟨g,ad,N,cap,hg,hsv,hvw⟩:=hv;exact yU (hsv ▸ ho g hg) hz hvw
   .simp[VR]
  .rename_i e
   exact VR.keep (f:=(· != o)) ⟨hM,fun _ _=>rfl⟩ hG c (.vw i s j n) (by simpa [Va.all]using e) hv
 |c,.bufc i s,hv=>by
  simp only[iU];split
  .simp[VR]
  .rename_i e
   exact VR.keep (f:=(· != o)) ⟨hM,fun _ _=>rfl⟩ hG c (.bufc i s) (by simpa [Va.all]using e) hv
 |c,.nv i s,hv=>by
  simp only[iU];split
  .simp[VR]
  .rename_i e
   exact VR.keep (f:=(· != o)) ⟨hM,fun _ _=>rfl⟩ hG c (.nv i s) (by simpa [Va.all]using e) hv
 |c,.ne i s j l a,hv=>by
  simp only[iU];split
  .simp[VR]
  .rename_i e
   exact VR.keep (f:=(· != o)) ⟨hM,fun _ _=>rfl⟩ hG c (.ne i s j l a) (by simpa [Va.all]using e) hv
 |c,.fn f vs,hv=>by simp only[iU,VR]at *;obtain⟨cs,h1,h2⟩:=hv;exact⟨cs,h1,CK hM hG ho hz h2⟩
 |c,.agg vs,hv=>by simp only[iU,VR]at *;obtain⟨cs,h1,h2⟩:=hv;exact⟨cs,h1,CK hM hG ho hz h2⟩
 |c,.tup vs,hv=>by simp only[iU,VR]at *;obtain⟨cs,h1,h2⟩:=hv;exact⟨cs,h1,CK hM hG ho hz h2⟩
 |c,.cnd b v,hv=>by
  simp only[iU];split
  .rename_i e
   exact VR.keep (f:=(· != o)) ⟨hM,fun _ _=>rfl⟩ hG c (.cnd b v) (by simpa only[Va.all]using e) hv
  .simp[VR]
theorem CK(hM:∀b,K b->K' b)(hG:Mg (· != o) G G')(ho:∀g,G[o]?=some g->DR K' h g.sv (.l r.2))(hz:∀x∈r.2,x.length=r.1):∀{cs:List Value} {vs:List Va},VRs K h G cs vs->VRs K' h G' cs (kI o r vs)
 |cs,[],hv=>by simpa only[kI,VRs]using hv
 |cs,v::vs,hv=>by
  simp only[kI,VRs]at *;obtain⟨c,cs',e1,e2,e3⟩:=hv;exact⟨c,cs',e1,tO hM hG ho hz e2,CK hM hG ho hz e3⟩
end
end
section
variable {P:Program} {kl:List Bool} {n:Nat} {B:Bs} {Q:Qt} {E:dY} {H:List Ob}
theorem Wp.freeze{c:Code}(o:Nat){T:TypeId}{sz:Nat}{rows:List (List Dt)}(ho:Is (ed H o) (.buf T sz rows))(hk:en kl o=false)(hc:Wp P kl n B c Q (qO o (sz,rows) E) ((kJ o (sz,rows) H).set o .gone)):Wp P kl n B c Q E H:=by
 intro hB a w hR;obtain⟨K,G,hX,hS,hE,hd,hn,hkp⟩:=hR;have hoH:=zn ho (by simp);obtain⟨g,hg,_⟩:=hS.ghost hoH;have hol:=(List.getElem?_eq_some_iff.1 hg).1
 let K':Nat->Prop:=fun b=>K b∨g.blk=some b
 let G':=G.set o ⟨none,g.sv,[]⟩
 have hM:∀b,K b->K' b:=fun _ h=>.inl h
 have hMg:Mg (· != o) G G':=fun i g' hi hg'=>by
  show(G.set o _)[i]?=_
  rw[getElem?_set_ne (by simpa using Ne.symm (by simpa using hi))];exact hg'
 have hdr:∀g',G[o]?=some g'->DR K' w.heap g'.sv (.l rows):=fun g' hg'=>by
  rw[hg]at hg';cases hg'
  exact pX hS hoH hg hM fun b hb=>.inr hb
 have hzz:∀x∈(sz,rows).2,x.length=(sz,rows).1:=by
  obtain⟨_,xs,hxs,_⟩:=hS.ob o g _ hg hoH;exact BI hxs
 have get':∀{i:Nat} {g':Gh},G'[i]?=some g'->(i=o/\g'=⟨none,g.sv,[]⟩)∨(i≠o/\G[i]?=some g'):=by
  intro i g' hg'
  by_cases e:i=o
  .subst e
   rw[show G'[i]?=some ⟨none,g.sv,[]⟩from getElem?_set_self hol]at hg'
   cases hg';exact .inl ⟨rfl,rfl⟩
  .rw[show G'[i]?=G[i]? from getElem?_set_ne (Ne.symm e)]at hg'
   exact .inr ⟨e,hg'⟩
 refine hc hB a w ⟨K',G',{ hX with k:=fun b hb=>.inl (hX.k b hb),knew:=fun b hb=>?_,glen:=?_,gown:=fun i g' b hg' hb=>?_,gsame:=fun i g0 hi h0=>?_ },⟨?_,fun b hb=>?_,fun i g' b hg' hb=>?_,fun i j g' g'' b hg' hg'' hb hb'=>?_,fun i g' y hg' hy=>?_,hS.tb.mono ⟨fun _ h=>.inl h,fun _ _=>rfl⟩⟩,fun m=>?_,hd,hn,fun i hi=>?_⟩
 .rcases hb with hb|hb
  .exact hX.knew b hb
  .exact .inr (hX.gown o g b hg (.inl hb))
 .show B.G0.length<=(G.set o _).length
  rw[length_set];exact hX.glen
 .rcases get' hg' with⟨_,rfl⟩|⟨_,h⟩
  .exact(rF hb).elim
  .exact hX.gown i g' b h hb
 .have h1:=hX.gsame i g0 hi h0
  have h2:o≠i:=fun e=>by rw[<-e]at hi;rw[show en kl o=true from hi]at hk;cases hk
  show(G.set o _)[i]?=_
  rw[getElem?_set_ne h2];exact h1
 .show(G.set o _).length=_
  rw[length_set,length_set,Ii,hS.len]
 .rcases hb with hb|hb
  .exact hS.kb b hb
  .exact(hS.gb o g b hg hb).1
 .rcases get' hg' with⟨_,rfl⟩|⟨e,h⟩
  .exact(rF hb).elim
  .refine⟨(hS.gbo i g' b h hb).1,fun hk'=>?_⟩
   rcases hk' with hk'|hk'
   .exact(hS.gbo i g' b h hb).2 hk'
   .exact e (hS.ijo i o g' g b h hg hb (.inl hk'))
 .rcases get' hg' with⟨_,rfl⟩|⟨_,h⟩
  .exact(rF hb).elim
  .rcases get' hg'' with⟨_,rfl⟩|⟨_,h'⟩
   .exact(rF hb').elim
   .exact hS.ijo i j g' g'' b h h' hb hb'
 .rcases get' hg' with⟨rfl,rfl⟩|⟨e,h⟩
  .rw[getElem?_set_self (by rw[Ii,<-hS.len];exact hol)]at hy
   cases hy;trivial
  .rw[getElem?_set_ne (Ne.symm e),HE]at hy
   cases hx:H[i]? with
   |none=>rw[hx]at hy;cases hy
   |some x =>
    rw[hx]at hy;simp at hy;subst hy;have hob:=hS.ob i g' x h hx
    cases x with
    |cells T vs =>
     obtain⟨b,cs,h1,h2,h3⟩:=hob;exact⟨b,cs,h1,h2,CK hM hMg hdr hzz h3⟩
    |buf T' sz' rows'=>exact ObR.keep ⟨hM,fun _ _=>rfl⟩ (Mg.refl (fun _=>true) G) (fun _ _=>rfl) rfl hob
    |fx T' sz' rows'=>exact ObR.keep ⟨hM,fun _ _=>rfl⟩ (Mg.refl (fun _=>true) G) (fun _ _=>rfl) rfl hob
    |sb T' bs=>exact ObR.keep ⟨hM,fun _ _=>rfl⟩ (Mg.refl (fun _=>true) G) (fun _ _=>rfl) rfl hob
    |mp ag es=>exact ObR.keep ⟨hM,fun _ _=>rfl⟩ (Mg.refl (fun _=>true) G) (fun _ _=>rfl) rfl hob
    |mpb ag es bs cl=>exact ObR.keep ⟨hM,fun _ _=>rfl⟩ (Mg.refl (fun _=>true) G) (fun _ _=>rfl) rfl hob
    |it q cl seen =>
     simp only[my];split
     .trivial
     .rename_i e;exact ObR.keep ⟨hM,fun _ _=>rfl⟩ hMg (fun _ _=>rfl) (by simpa [Ob.all]using e) hob
    |nst f T' sz' k p rows' st =>
     simp only[my];split
     .cases f <;> trivial
     .rename_i e;exact ObR.keep ⟨hM,fun _ _=>rfl⟩ hMg (fun _ _=>rfl) (by simpa [Ob.all]using e) hob
    |inn T' sz' ins=>exact ObR.keep ⟨hM,fun _ _=>rfl⟩ (Mg.refl (fun _=>true) G) (fun _ _=>rfl) rfl hob
    |gone=>trivial
    |lost=>trivial
 .rw[mx]
  exact tO hM hMg hdr hzz (hE m)
 .obtain⟨x,hx,hkt⟩:=hkp i hi
  have h2:o≠i:=fun e=>by rw[<-e]at hi;rw[show en kl o=true from hi]at hk;cases hk
  refine⟨my o (sz,rows) x,?_,qN hkt⟩;rw[getElem?_set_ne h2,HE,hx];rfl
end
attribute [go_sem] lT eZ hT gE ja kf ii ie eH iM xh fO eV iS fg iU kI qO my kJ
mutual
theorem Bb{ids:List Nat}{base:Nat}:∀{v u:Va},eZ ids v=some u->eH ids base u=v
 |.ptr o a,u,h=>by
  simp only[eZ]at h;split at h
  .rename_i j hj;cases h;simp only[eH,oN (g9 hj)]
  .cases h
 |.cs o a,u,h=>by
  simp only[eZ]at h;split at h
  .rename_i j hj;cases h;simp only[eH,oN (g9 hj)]
  .cases h
 |.el o s i a,u,h=>by
  simp only[eZ]at h;split at h
  .rename_i j hj;cases h;simp only[eH,oN (g9 hj)]
  .cases h
 |.buf o,u,h=>by
  simp only[eZ]at h;split at h
  .rename_i j hj;cases h;simp only[eH,oN (g9 hj)]
  .cases h
 |.mp o,u,h=>by
  simp only[eZ]at h;split at h
  .rename_i j hj;cases h;simp only[eH,oN (g9 hj)]
  .cases h
 |.np o,u,h=>by
  simp only[eZ]at h;split at h
  .rename_i j hj;cases h;simp only[eH,oN (g9 hj)]
  .cases h
 |.sd o,u,h=>by
  simp only[eZ]at h;split at h
  .rename_i j hj;cases h;simp only[eH,oN (g9 hj)]
  .cases h
 |.vw o _ _ _,u,h=>by
  simp only[eZ]at h;split at h
  .rename_i j hj;cases h;simp only[eH,oN (g9 hj)]
  .cases h
 |.bufc o _,u,h=>by
  simp only[eZ]at h;split at h
  .rename_i j hj;cases h;simp only[eH,oN (g9 hj)]
  .cases h
 |.nv o _,u,h=>by
  simp only[eZ]at h;split at h
  .rename_i j hj;cases h;simp only[eH,oN (g9 hj)]
  .cases h
 |.ne o _ _ _ _,u,h=>by
  simp only[eZ]at h;split at h
  .rename_i j hj;cases h;simp only[eH,oN (g9 hj)]
  .cases h
 |.fn f vs,u,h=>by
  simp only[eZ]at h;split at h
  .rename_i us hu;cases h;simp only[eH,Cz hu]
  .cases h
 |.agg vs,u,h=>by
  simp only[eZ]at h;split at h
  .rename_i us hu;cases h;simp only[eH,Cz hu]
  .cases h
 |.tup vs,u,h=>by
  simp only[eZ]at h;split at h
  .rename_i us hu;cases h;simp only[eH,Cz hu]
  .cases h
 |.cnd _ _,_,h=>by simp[eZ]at h
 |.p x,u,h|.nils,u,h|.full x,u,h|.rp x,u,h|.nil,u,h|.raw x,u,h|.er x,u,h|.top,u,h=>by simp only[eZ]at h;cases h;rfl
theorem Cz{ids:List Nat}{base:Nat}:∀{vs us:List Va},hT ids vs=some us->iM ids base us=vs
 |[],us,h=>by simp only[hT]at h;cases h;rfl
 |v::vs,us,h=>by
  simp only[hT]at h;split at h
  .rename_i u us' h1 h2
   cases h;simp only[iM,Bb h1,Cz h2]
  .cases h
end
theorem uD{ids:List Nat}{base:Nat}{x y:Ob}(h:kf ids x=some y):xh ids base y=x:=by
 cases x with
 |cells T vs =>
  simp only[kf]at h;split at h
  .rename_i us hu;cases h;simp only[xh,Cz hu]
  .cases h
 |it _ _ _=>simp[kf]at h
 |nst f T sz k p rows st =>
  simp only[kf]at h;split at h
  .rename_i j hj;cases h;simp only[xh,oN (g9 hj)]
  .cases h
 |_=>simp only[kf]at h;cases h;rfl
mutual
theorem Kb:∀v:Va,v.prune (fun _=>true)=v
 |.ptr _ _|.cs _ _|.el _ _ _ _|.buf _|.mp _|.np _|.sd _|.vw _ _ _ _|.bufc _ _|.nv _ _|.ne _ _ _ _ _=>by simp[Va.prune]
 |.fn f vs=>by simp only[Va.prune,Db vs]
 |.agg vs=>by simp only[Va.prune,Db vs]
 |.tup vs=>by simp only[Va.prune,Db vs]
 |.cnd c v=>by simp only[Va.prune,Va.all_true,if_true]
 |.p _|.nils|.full _|.rp _|.nil|.raw _|.er _|.top=>rfl
theorem Db:∀vs:List Va,cr (fun _=>true) vs=vs
 |[]=>rfl
 |v::vs=>by simp only[cr,Kb v,Db vs]
end
theorem Iz:∀E:dY,fF (fun _=>true) E=E
 |[]=>rfl
 |(k,v)::E=>by simp only[fF,Kb,Iz E]
theorem IA:∀H:List Ob,fc (fun _=>true) H=H
 |[]=>rfl
 |x::H=>by simp only[fc,IA H];cases x <;> simp only[Ob.prune,Db,if_true]
def rP(H:List Ob):List Nat->Bool
 |[]=>true
 |i::ids=>(ed H i).kept&&rP H ids
theorem JY{H:List Ob}{ids:List Nat}(h:rP H ids=true):fg ids H=fun _=>true:=by
 funext o
 simp only[fg]
 by_cases ho:o∈ids
 .have:(ed H o).kept=true:=by
   induction ids with
   |nil=>cases ho
   |cons i ids ih =>
    simp only[rP,Bool.and_eq_true]at h
    rcases mem_cons.1 ho with rfl|ho
    .exact h.1
    .exact ih h.2 ho
  simp[this]
 .simp[ho]
theorem sD{H X:List Ob}{ids:List Nat}{base:Nat}(hX:ii ids H ids=some X)(hids:iS H.length ids=true):eV H ids (fO ids base X)=H:=by
 obtain⟨hnd,hlt⟩:=Ge hids;obtain⟨hl,hg⟩:=FX hX;apply ext_getElem?;intro o
 by_cases ho:o∈ids
 .obtain⟨j,hj⟩:=getElem?_of_mem ho
  rw[BG hnd hlt (by rw[rU];omega) hj,CO];obtain⟨x,hx,hr⟩:=hg j o hj;rw[hx];simp only[Option.map_some,uD hr];have hol:=hlt o ho;rw[getElem?_eq_getElem hol,CH (getElem?_eq_getElem hol)]
 .rcases Nat.lt_or_ge o H.length with h|h
  .exact BH ho h
  .rw[getElem?_eq_none h,getElem?_eq_none]
   rw[BZ (by rw[rU];omega),rU];omega

section
variable {P:Program} {kl:List Bool} {n:Nat} {B:Bs} {K:dY->List Ob->Prop} {E:dY} {H:List Ob}

theorem Ga{o:Oper}{c:Call}{fop:Operand}{f:FuncId}{caps args:List Va}{X:List Ob}{v:Va}(ids:List Nat)(hs:Does P f args X fun r X'=>r=v/\X'=X)(ho:o.op=.call c)(hc:c.callee=.value fop)(hok:opOk true E fop/\allOk true E c.args.toList)(hf:opnd E fop=.fn f caps)
  (hp:ja ids (opnds E c.args.toList++caps)=some args) (hXs:ii ids H ids=some X) (hids:iS H.length ids=true) (hkp:rP H ids=true) {a:Act} {w:World} {Q:Exit->Act->World->Prop} {K':Act->World->Prop} (hR:Rel (cx P kl n B) E H a w)
  (hK':∀c' w',v.ok->RelV (cx P kl n B) E H c' (eH ids H.length v) a w'->K' (a.put o.dst c') w'):o.wp P a w K' Q:=by
 refine xC ids hs ho hc hok hf hp hXs hids hR fun c' r X' w' ⟨hr,hX⟩ hv hRV=>?_
 subst hr;subst hX
 rw[JY hkp,Iz,IA,sD hXs hids]at hRV;exact hK' c' w' hv hRV

theorem Rg.callR{ops:Array Oper}{o:Oper}{l:List Oper}{f:FuncId}{av args:List Va}{X:List Ob}{g:Bool}{v:Va}(ids:List Nat)(hs:g=true->Does P f args X fun r X'=>r=v/\X'=X)(ha:Is (gc E o) (some (f,av)))(hb:Is (fM ops.toList E o) (some g))(hp:Is (ja ids av) (some args))(hXs:Is (ii ids H ids) (some X))(hids:iS H.length ids=true)(hkp:rP H ids=true)(hok:fX n g E o)
  (cont:eS P kl n B ops K (eL P kl n ops.toList l ⟨eB E o.dst (gn o.guard g (eH ids H.length v)),H,True⟩)):Rg P kl n B ops (o::l) E H K:=by
 unfold Is gc at ha;unfold Is fM at hb;split at ha
 rotate_left
 .cases ha
 rename_i c h1
 split at ha
 rotate_left
 .cases ha
 rename_i fop h3
 split at ha
 rotate_left
 .cases ha
 rename_i f' caps h4
 cases ha;obtain⟨hd,hk⟩:=ld hok h1 h3;have hrun:=Rg.run cont;intro hB a w Q hR hKK
 cases hg:o.guard with
 |none =>
  rw[hg]at hb;obtain rfl:true=g:=Option.some.inj hb
  refine wpList_plain hg fun K' hK'=>?_
  rw[vS hg]at hrun
  exact Ga ids (hs rfl) h1 h3 hk h4 hp hXs hids hkp hR fun c' w' _ hRV=>hK' _ _ (hrun hB _ _ _ (hRV.put o.dst (zM hd)) hKK)
 |some gw =>
  obtain⟨j,want⟩:=gw;rw[hg]at hb;have hw:=nK hR hg hb;rw[rZ hg]at hrun
  refine wpList_step fun K' hK'=>?_
  cases g with
  |true =>
   rw[if_pos hw]
   exact Ga ids (hs rfl) h1 h3 hk h4 hp hXs hids hkp hR fun c' w' _ hRV=>hK' _ _ (hrun hB _ _ _ (RelV.put (v:=.cnd true _) (by
    obtain⟨Kk,G,q1,q2,q3,q4,q5,q6,q7⟩:=hRV
    exact⟨Kk,G,q1,q2,q3,q4,q5,q6,by simp only[VR];exact⟨fun _=>q7,fun e=>Bool.noConfusion e⟩⟩) o.dst (zM hd)) hKK)
  |false =>
   rw[if_neg (by rw[hw];simp)];obtain⟨Kk,G,hX,hS,hE,hdf,hn,hkp'⟩:=hR;exact hK' _ _ (hrun hB _ _ _ (RelV.put (C:=cx P kl n B) (v:=.cnd false _) ⟨Kk,G,hX,hS,hE,hdf,hn,hkp',by simp[VR]⟩ o.dst (zM hd)) hKK)
end

section
variable {P:Program} {kl:List Bool} {n:Nat} {B:Bs} {ops:List Oper} {K:dY->List Ob->Prop} {l:Plan} {obs:List En} {E:dY} {H:List Ob}
theorem dB{k:Nat}{L:List Nat}{f:FuncId}{av args:List Va}{X Y:List Ob}{o:Oper}{v:Va}(ids:List Nat)(hs:Does P f args X fun r X'=>r=v/\X'=Y)(hk:Is ops[k]? (some o))(hg:Is o.guard none)(ha:Is (gc E o) (some (f,av)))(hp:Is (ja ids av) (some args))(hXs:Is (ii ids H ids) (some X))(hids:iS H.length ids=true)(hkp:rP H ids=true)(hok:fX n true E o)
  (hag:nF L none (eV H ids (fO ids H.length Y)) obs)
  (cont:gy P kl n B ops.toArray K (fw P kl n ops l ⟨obs,eB E o.dst (eH ids H.length v),eV H ids (fO ids H.length Y),True⟩)):Br P kl n B ops.toArray k L l obs E H K:=by
 unfold Is at *;unfold gc at ha;split at ha
 rotate_left
 .cases ha
 rename_i c h1
 split at ha
 rotate_left
 .cases ha
 rename_i fop h3
 split at ha
 rotate_left
 .cases ha
 rename_i f' caps h4
 cases ha;obtain⟨hd,hk1,hk2⟩:=ld hok h1 h3;have h':=Dr.run cont;simp only at h';rw[<-g6 hk]at h';refine Br.eff (po:=none) (fun _=>?_) hag h';intro E' hE' a w Q K' hR hK;have hop:=rQ (fU hk) hE';rw[h1]at hop;have hfo:eu E fop=eu E' fop:=hop fop (by simp[Op.operands,Call.operands,h3])
 have hag':Agree c.args.toList E E':=fun x hx=>hop x (by simp only[Op.operands,Call.operands,Array.toList_append,mem_append];exact .inr hx)
 rw[Agree.opOk hfo]at hk1;rw[Agree.allOk hag']at hk2;rw[Agree.opnd hfo]at h4;rw[Agree.opnds hag']at hp;rw[g6 hk]at hK;unfold wpOp;simp only[fU hk];rw[if_pos (by simp[Region.wanted,hg])];refine .inl (xC ids hs h1 h3 ⟨hk1,hk2⟩ h4 hp hXs hids hR fun c' r X' w' ⟨hr,hX⟩ _ hRV=>?_)
 subst hr;subst hX
 rw[JY hkp,Iz,IA]at hRV;exact hK _ _ (hRV.put o.dst (zM hd))
theorem Br.callR{k:Nat}{L:List Nat}{f:FuncId}{av args:List Va}{X:List Ob}{g:Bool}{o:Oper}{v:Va}(ids:List Nat)(hs:g=true->Does P f args X fun r X'=>r=v/\X'=X)(hk:Is ops[k]? (some o))(ha:Is (gc E o) (some (f,av)))(hb:Is (fM ops E o) (some g))(hp:Is (ja ids av) (some args))(hXs:Is (ii ids H ids) (some X))(hids:iS H.length ids=true)(hkp:rP H ids=true)(hok:fX n g E o)
  (hag:nF L none H obs)
  (cont:gy P kl n B ops.toArray K (fw P kl n ops l ⟨obs,eB E o.dst (gn o.guard g (eH ids H.length v)),H,True⟩)):Br P kl n B ops.toArray k L l obs E H K:=by
 unfold Is at *;unfold gc at ha;split at ha
 rotate_left
 .cases ha
 rename_i c h1
 split at ha
 rotate_left
 .cases ha
 rename_i fop h3
 split at ha
 rotate_left
 .cases ha
 rename_i f' caps h4
 cases ha;obtain⟨hd,hk1,hk2⟩:=ld hok h1 h3;have h':=Dr.run cont;simp only at h';rw[<-g6 hk]at h';refine Br.eff (po:=none) (fun _=>?_) hag h';intro E' hE' a w Q K' hR hK;have hop:=rQ (fU hk) hE';rw[h1]at hop;have hfo:eu E fop=eu E' fop:=hop fop (by simp[Op.operands,Call.operands,h3])
 have hag':Agree c.args.toList E E':=fun x hx=>hop x (by simp only[Op.operands,Call.operands,Array.toList_append,mem_append];exact .inr hx)
 rw[Agree.opOk hfo]at hk1;rw[Agree.allOk hag']at hk2;rw[Agree.opnd hfo]at h4;rw[Agree.opnds hag']at hp;rw[g6 hk]at hK;unfold wpOp;simp only[fU hk];unfold fM at hb
 cases hgd:o.guard with
 |none =>
  rw[hgd]at hb hK;obtain rfl:true=g:=Option.some.inj hb;rw[if_pos (by simp[Region.wanted,hgd])];exact .inl (Ga ids (hs rfl) h1 h3 ⟨hk1,hk2⟩ h4 hp hXs hids hkp hR fun c' w' _ hRV=>hK _ _ (hRV.put o.dst (zM hd)))
 |some gw =>
  obtain⟨j,want⟩:=gw;rw[hgd]at hb hK
  have hb':ib ops.toArray.toList E j want=some g:=by simpa using hb
  rw[<-xK (fU hk) hgd hE']at hb';have hw:=nK hR hgd hb'
  cases g with
  |true =>
   rw[if_pos hw]
   exact .inl (Ga ids (hs rfl) h1 h3 ⟨hk1,hk2⟩ h4 hp hXs hids hkp hR fun c' w' _ hRV=>hK _ _ (RelV.put (v:=.cnd true _) (by
    obtain⟨Kk,G,q1,q2,q3,q4,q5,q6,q7⟩:=hRV
    exact⟨Kk,G,q1,q2,q3,q4,q5,q6,by simp only[VR];exact⟨fun _=>q7,fun e=>Bool.noConfusion e⟩⟩) o.dst (zM hd)))
  |false =>
   rw[if_neg (by rw[hw];simp)];obtain⟨Kk,G,hX,hS,hE,hdf,hn,hkp'⟩:=hR;exact hK _ _ (RelV.put (C:=cx P kl n B) (v:=.cnd false _) ⟨Kk,G,hX,hS,hE,hdf,hn,hkp',by simp[VR]⟩ o.dst (zM hd))
end
attribute [go_sem] rP
section
variable {K V Z:Type} [DecidableEq K]
def zu:List (K×V)->K->Option V
 |[],_=>none
 |p::l,k=>bif decide (p.1=k)then some p.2 else zu l k
def ec:List (K×V)->K->V->List (K×V)
 |[],k,v=>[(k,v)]
 |p::l,k,v=>bif decide (p.1=k)then(k,v)::l else p::ec l k v
def fe:List (K×V)->K->List (K×V)
 |[],_=>[]
 |p::l,k=>bif decide (p.1=k)then l else p::fe l k
omit [DecidableEq K] in
def zj(kd:K->Dt)(e:V->List Dt)(l:List (K×V)):List (Dt×List Dt):=l.map fun p=>(kd p.1,e p.2)
def eA{A:Type}(a:A)(k:A->Option Z):Option Z:=k a
theorem zC{A:Type}{a:A}{k:A->Option Z}{z:Z}(h:eA a k=some z):∃x,a=x/\k x=some z:=⟨a,rfl,h⟩
variable {kd:K->Dt} {e:V->List Dt}
theorem H0(hk:∀a b,fi (kd a) (kd b)=decide (a=b)):∀(l:List (K×V)) (k:K),gl (zj kd e l) (kd k)=(zu l k).map e
 |[],_=>rfl
 |p::l,k=>by
  have ih:=H0 hk l k;simp only[zj]at ih;simp only[zj,map_cons,gl,zu,hk,ih]
  cases decide (p.1=k) <;> rfl
theorem fN(hk:∀a b,fi (kd a) (kd b)=decide (a=b)):∀(l:List (K×V)) (k:K) (v:V),fq (zj kd e l) (kd k) (e v)=zj kd e (ec l k v)
 |[],_,_=>rfl
 |p::l,k,v=>by
  have ih:=fN hk l k v;simp only[zj]at ih;simp only[zj,map_cons,fq,ec,hk,ih]
  cases decide (p.1=k) <;> rfl
theorem ve(hk:∀a b,fi (kd a) (kd b)=decide (a=b)):∀(l:List (K×V)) (k:K),ij (zj kd e l) (kd k)=zj kd e (fe l k)
 |[],_=>rfl
 |p::l,k=>by
  have ih:=ve hk l k;simp only[zj]at ih;simp only[zj,map_cons,ij,fe,hk,ih]
  cases decide (p.1=k) <;> rfl
theorem zy(hk:∀a b,fi (kd a) (kd b)=decide (a=b))(l:List (K×V))(k:K)(d:V):nB (zj kd e l) (kd k) (e d)=e ((zu l k).getD d):=by
 simp only[nB,H0 hk]
 cases zu l k <;> rfl
theorem zx(hk:∀a b,fi (kd a) (kd b)=decide (a=b))(l:List (K×V))(k:K):(gl (zj kd e l) (kd k)).isSome=(zu l k).isSome:=by
 rw[H0 hk]
 cases zu l k <;> rfl
omit [DecidableEq K] in
theorem mI(l:List (K×V)):(zj kd e l).length=l.length:=by simp[zj]
end
theorem tZ{K V:Type}(kd:K->Dt)(e:V->List Dt):zj kd e []=[]:=rfl
theorem zZ(a b:dX):fi (Dt.s a) (Dt.s b)=decide (a=b):=rfl
theorem Lv(k:IntKind)(a b:Int):fi (Dt.i k a) (Dt.i k b)=decide (a=b):=rfl
theorem pp{V:Type}(e:V->List Dt):∀l:List (dX×V),ik (.tk .str) (zj Dt.s e l)=True
 |[]=>by simp only[zj,map_nil,ik]
 |p::l=>by
  have ih:=pp e l;simp only[zj]at ih;simp only[zj,map_cons,ik,iX,ih,and_self]
theorem pq{V:Type}(k:IntKind)(e:V->List Dt):∀l:List (Int×V),ik (.tk (.int k)) (zj (Dt.i k) e l)=True
 |[]=>by simp only[zj,map_nil,ik]
 |p::l=>by
  have ih:=pq k e l;simp only[zj]at ih;simp only[zj,map_cons,ik,iX,ih,and_self]
theorem pt{K V:Type}{kd:K->List Dt}{ks:List Kd}(h:∀x,zD ks (kd x))(e:V->List Dt):∀l:List (K×V),ik (.ks ks) (zj (fun x=>Dt.a (kd x)) e l)=True
 |[]=>by simp only[zj,map_nil,ik]
 |p::l=>by
  have ih:=pt h e l;simp only[zj]at ih;simp only[zj,map_cons,ik,iX,ih,and_true,eq_true (h p.1)]
attribute [go_sem] tZ pp pq mI

def Nv(P:Program)(f:FuncId)(args:List Va)(v:Va):Prop :=
 ∀K (w:World) vals,VRs K w.heap [] vals args->∃c,(callFunc f vals.toArray).run P w=.ok (.value c) w/\VR K w.heap [] c v

theorem J9{P:Program}{o:Oper}{c:Call}{fop:Operand}{f:FuncId}{cs:List Value}{a:Act}{w:World}(ho:o.op=.call c)(hc:c.callee=.value fop)(hf:a.eval fop=.func (.func f) #[] cs.toArray) :
  (execOp a.eval o).run P w=(callFunc f ((c.args.toList.map a.eval)++cs).toArray).run P w:=by
 obtain⟨callee,args,argTypes⟩:=c;obtain⟨dst,op,ty,pos,af,gd⟩:=o;cases ho;simp only at hc;subst hc
 have e:args.map a.eval=(args.toList.map a.eval).toArray:=by cases args;simp
 simp only[execOp,resolve,hf,Deferred.ofValue,Sem.run_bind,Sem.run_pure,Result.andThen_ok,invoke]
 congr 2
 simp

section
variable {P:Program} {kl:List Bool} {n:Nat} {B:Bs} {ops:Array Oper} {K:dY->List Ob->Prop} {E:dY} {H:List Ob}
theorem jr{o:Oper}{c:Call}{fop:Operand}{f:FuncId}{caps args:List Va}{v:Va}(hs:Nv P f args v)(ho:o.op=.call c)(hc:c.callee=.value fop)
  (hok:opOk true E fop/\allOk true E c.args.toList) (hf:opnd E fop=.fn f caps) (hp:g7 H (opnds E c.args.toList++caps)=some args) (hflat:v.flat=true) {a:Act} {w:World} {Q:Exit->Act->World->Prop} {K':Act->World->Prop}
  (hR:Rel (cx P kl n B) E H a w) (hK:v.ok->∀c' w',RelV (cx P kl n B) E H c' v a w'->K' (a.put o.dst c') w'):o.wp P a w K' Q:=by
 obtain⟨Kk,G,hX,hS,hE,hdf,hn,hkp⟩:=hR;have hvf:=zw hE rfl fop hok.1;rw[hf]at hvf;simp only[VR]at hvf;obtain⟨cs,hcs,hcv⟩:=hvf;have hargs:=vf hE rfl c.args.toList hok.2;have hall:=vM hS hp (hargs.append hcv);obtain⟨c',hrun,hv⟩:=hs _ w _ hall;unfold Oper.wp;rw[J9 ho hc hcs,hrun];simp only[Oper.upon];exact hK hv.ok c' w ⟨Kk,G,hX,hS,hE,hdf,hn,hkp,CJ hflat hv⟩
theorem cW{o:Oper}{l:List Oper}{f:FuncId}{av args:List Va}{g:Bool}{v:Va}(hs:g=true->Nv P f args v)(ha:Is (gc E o) (some (f,av)))(hb:Is (fM ops.toList E o) (some g))(hp:Is (g7 H av) (some args))(hok:fX n g E o)(hf:Is v.flat true)
  (cont:(g=true->v.ok)->eS P kl n B ops K (eL P kl n ops.toList l ⟨eB E o.dst (gn o.guard g v),H,True⟩)):Rg P kl n B ops (o::l) E H K:=by
 unfold Is gc at ha;unfold Is fM at hb;split at ha
 rotate_left
 .cases ha
 rename_i c h1
 split at ha
 rotate_left
 .cases ha
 rename_i fop h3
 split at ha
 rotate_left
 .cases ha
 rename_i f' caps h4
 cases ha;obtain⟨hd,hk⟩:=ld hok h1 h3
 cases hg:o.guard with
 |none =>
  rw[hg]at hb;obtain rfl:true=g:=Option.some.inj hb;intro hB a w Q hR hK
  refine wpList_plain hg fun K' hK'=>?_
  refine jr (hs rfl) h1 h3 hk h4 hp hf hR fun hvo c' w' hRV=>?_
  have c1:=cont fun _=>hvo
  rw[vS hg]at c1;exact hK' _ _ (Rg.run c1 hB _ _ _ (hRV.put o.dst (zM hd)) hK)
 |some gw =>
  obtain⟨j,want⟩:=gw;rw[hg]at hb;intro hB a w Q hR hK;have hw:=nK hR hg hb
  refine wpList_step fun K' hK'=>?_
  cases g with
  |true =>
   rw[if_pos hw]
   refine jr (hs rfl) h1 h3 hk h4 hp hf hR fun hvo c' w' hRV=>?_
   have c1:=cont fun _=>hvo
   rw[rZ hg]at c1
   have hRV:RelV (cx P kl n B) E H c' (.cnd true v) a w':=by
    obtain⟨Kk,G,hX,hS,hE,hdf,hn,hkp,hv⟩:=hRV;exact⟨Kk,G,hX,hS,hE,hdf,hn,hkp,by simp only[VR];exact⟨fun _=>hv,fun e=>Bool.noConfusion e⟩⟩
   exact hK' _ _ (Rg.run c1 hB _ _ _ (hRV.put o.dst (zM hd)) hK)
  |false =>
   rw[if_neg (by rw[hw];simp)];obtain⟨Kk,G,hX,hS,hE,hdf,hn,hkp⟩:=hR;have hRV:RelV (cx P kl n B) E H undef (.cnd false v) a w:=⟨Kk,G,hX,hS,hE,hdf,hn,hkp,by simp[VR]⟩
   have c1:=cont fun e=>Bool.noConfusion e
   rw[rZ hg]at c1;exact hK' _ _ (Rg.run c1 hB _ _ _ (hRV.put o.dst (zM hd)) hK)
end

def wn(m:Nat)(kl:List Bool)(v:Va)(Y H:List Ob)(pv:Pv):Prop :=
 pv.ok/\kl.length<=m/\m<=H.length/\(gh m H pv.v).all (fun o=>decide (o<m))=true/\hZ (fun o=>decide (o<m)) (fR m H (H.take m))=true /\
  fJ (gh m H pv.v) v/\leH (fR m H (H.take m)) Y/\Y.length=m/\v.all (fun o=>decide (o<m))=true/\hZ (fun o=>decide (o<m)) Y=true
section
variable {P:Program} {kl:List Bool} {rs:List ResultVar} {m:Nat} {E:dY} {H Y:List Ob} {v:Va}
theorem oY(h:wn m kl v Y H (fQ P E H rs)):iP P rs m kl (fun r X=>r=v/\X=Y) E H:=by
 obtain⟨h1,h2,h3,h4,h5,h6,h7,h8,h9,h10⟩:=h;exact⟨h1,h2,h3,h4,h5,_,_,h6,h7,h8,h9,h10,rfl,rfl⟩
theorem ls(h:wn m kl v Y H (fQ P E H rs)):lU P rs m kl (fun r X=>r=v/\X=Y) .ret E H:=oY h
theorem wm(h:wn m kl v Y H (fQ P E H rs)):lU P rs m kl (fun r X=>r=v/\X=Y) .normal E H:=oY h
end
theorem sw{n:Nat}{rows:List (List Dt)}{i:Nat}{r:List Dt}(h:eT n rows)(hr:r.length=n):eT n (rows.set i r)=True :=
 eq_true fun x hx=>by
  rcases mem_or_eq_of_mem_set hx with hx|rfl
  .exact h x hx
  .exact hr
theorem lC(n:Nat)(a b:List (List Dt)):eT n (a++b)=(eT n a/\eT n b):=by
 unfold eT;simp only[mem_append,eq_iff_iff];exact⟨fun h=>⟨fun r hr=>h r (.inl hr),fun r hr=>h r (.inr hr)⟩,fun h r hr=>hr.elim (h.1 r) (h.2 r)⟩
theorem qm{n k:Nat}{rows:List (List Dt)}(h:eT n rows):eT n (rows.take k)=True:=eq_true fun x hx=>h x (mem_of_mem_take hx)
theorem qn{n k:Nat}{rows:List (List Dt)}(h:eT n rows):eT n (rows.drop k)=True:=eq_true fun x hx=>h x (mem_of_mem_drop hx)
theorem L5{n k:Nat}{r:List Dt}(hr:r.length=n):eT n (List.replicate k r)=True:=eq_true fun x hx=>by rw[(mem_replicate.1 hx).2];exact hr
attribute [go_sem] length_map Int.toNat_natCast qk qY na bne_self_eq_false
attribute [go_sem] wn sw lC qm qn L5

def vc(s:List UInt8)(c:Int):Int:=Lib.indexByte s c.toNat.toUInt8
def vJ(s:List UInt8)(c:Int):Int:=(s.count c.toNat.toUInt8:Nat)
def eI(a b:List UInt8):Int:=Lib.compareBytes a b
theorem yd(c:UInt8):∀s:List UInt8,-1<=Lib.indexByte s c/\(Lib.indexByte s c<s.length∨Lib.indexByte s c=-1)
 |[]=>by simp[Lib.indexByte]
 |b::s=>by
  have:=yd c s;unfold Lib.indexByte;simp only[length_cons];split
  .omega
  .split <;> (rename_i h;simp only[beq_iff_eq]at h;omega)
theorem jw(s:List UInt8)(c:Int):-1<=vc s c/\(vc s c<s.length∨vc s c=-1):=yd c.toNat.toUInt8 s
theorem JQ(s:List UInt8)(c:Int):0<=vJ s c/\vJ s c<=s.length:=by
 unfold vJ;have:=count_le_length (a:=c.toNat.toUInt8) (l:=s);omega
theorem kW(a b:List UInt8):-1<=eI a b/\eI a b<=1:=by
 unfold eI
 induction a generalizing b with
 |nil=>cases b <;> simp[Lib.compareBytes]
 |cons x a ih =>
  cases b with
  |nil=>simp[Lib.compareBytes]
  |cons y b =>
   unfold Lib.compareBytes;have:=ih b;split
   .omega
   .split <;> omega
theorem Nv.indexByte {P:Program} {f:FuncId} {fn:Func} (hf:P.funcs[f]?=some fn) (hname:(fn.name == "runtime.NumGoroutine")=false) (hb:fn.body.isNone=true) (hn:Extern.findNext fn=none) (he:Extern.find fn=some Extern.BytealgIndexByte.indexByte) (s:List UInt8) (c:Int) :
  Nv P f [.p (.s s),.p (.i .u8 c)] (.p (.i .i64 (vc s c))):=by
 intro K w vals h;simp only[VRs,VR,DR]at h;obtain⟨a,r,rfl,⟨rfl,hl⟩,b,r',rfl,⟨rfl,hc⟩,rfl⟩:=h;refine⟨.int .i64 (vc s c),?_,?_⟩
 .rw[run_callFunc_extern hf hname hb hn he,Lib.run_indexByteString]
  simp only[Result.andThen,vc]
 .simp only[VR,DR,true_and]
  have:=jw s c;simp only[eh]at hl;simp only[Fits,lo,hi];omega
theorem Nv.countByte {P:Program} {f:FuncId} {fn:Func} (hf:P.funcs[f]?=some fn) (hname:(fn.name == "runtime.NumGoroutine")=false) (hb:fn.body.isNone=true) (hn:Extern.findNext fn=none) (he:Extern.find fn=some Extern.BytealgCount.count) (s:List UInt8) (c:Int) :
  Nv P f [.p (.s s),.p (.i .u8 c)] (.p (.i .i64 (vJ s c))):=by
 intro K w vals h;simp only[VRs,VR,DR]at h;obtain⟨a,r,rfl,⟨rfl,hl⟩,b,r',rfl,⟨rfl,hc⟩,rfl⟩:=h;refine⟨.int .i64 (vJ s c),?_,?_⟩
 .rw[run_callFunc_extern hf hname hb hn he,Lib.run_countString]
  simp only[Result.andThen,vJ,Lib.countByte]
 .simp only[VR,DR,true_and]
  have:=JQ s c;simp only[eh]at hl;simp only[Fits,lo,hi];omega
theorem Nv.compare {P:Program} {f:FuncId} {fn:Func} (hf:P.funcs[f]?=some fn) (hname:(fn.name == "runtime.NumGoroutine")=false) (hb:fn.body.isNone=true) (hn:Extern.findNext fn=none) (he:Extern.find fn=some Extern.BytealgCompare.compare) (a b:List UInt8) :
  Nv P f [.p (.s a),.p (.s b)] (.p (.i .i64 (eI a b))):=by
 intro K w vals h;simp only[VRs,VR,DR]at h;obtain⟨x,r,rfl,⟨rfl,hl⟩,y,r',rfl,⟨rfl,hl'⟩,rfl⟩:=h;refine⟨.int .i64 (eI a b),?_,?_⟩
 .rw[run_callFunc_extern hf hname hb hn he,Lib.run_compareString]
  simp only[Result.andThen,eI]
 .simp only[VR,DR,true_and]
  have:=kW a b;simp only[Fits,lo,hi];omega

theorem rf(d:Dt):1<=nw d:=by cases d <;> simp only[nw] <;> omega
theorem rh{r:List Dt}(h:r≠[]):1<=fP r:=by
 cases r with
 |nil=>exact absurd rfl h
 |cons d r=>simp only[fP];have:=rf d;omega
theorem m0{r:List Dt}:∀{rows:List (List Dt)},r∈rows->fP r<=jW rows
 |x::rows,h=>by
  simp only[jW]
  rcases mem_cons.1 h with rfl|h
  .omega
  .have:=m0 h;omega
theorem Dn{α:Type}{f:α->List Dt}{l:List α}{x:α}(h:x∈l):fP (f x)<=jW (l.map f):=m0 (mem_map_of_mem h)
theorem Dm{α:Type}{f:α->List Dt}(hf:∀x,f x≠[]):∀l:List α,l.length<=jW (l.map f)
 |[]=>by simp[jW]
 |x::l=>by
  have:=Dm hf l;have:=rh (hf x);simp only[map_cons,jW,length_cons];omega

def NvI(P:Program)(f:FuncId):Prop:=∀(c:Value) (w:World),(callFunc f #[c]).run P w=.ok (.value c) w
theorem NvI.noEscape {P:Program} {f:FuncId} {fn:Func} (hf:P.funcs[f]?=some fn) (hname:(fn.name == "runtime.NumGoroutine")=false) (hb:fn.body.isNone=true) (hn:Extern.findNext fn=none) (he:Extern.find fn=some Extern.AbiNoEscape.same):NvI P f:=by
 intro c w;rw[run_callFunc_extern hf hname hb hn he,Lib.run_noEscape];rfl

section
variable {P:Program} {kl:List Bool} {n:Nat} {B:Bs} {ops:Array Oper} {K:dY->List Ob->Prop} {E:dY} {H:List Ob}
theorem J8{o:Oper}{c:Call}{fop:Operand}{f:FuncId}{caps:List Va}{v:Va}(hs:NvI P f)(ho:o.op=.call c)(hc:c.callee=.value fop)
  (hok:opOk true E fop/\allOk true E c.args.toList) (hf:opnd E fop=.fn f caps) (hv:opnds E c.args.toList++caps=[v]) {a:Act} {w:World} {Q:Exit->Act->World->Prop} {K':Act->World->Prop}
  (hR:Rel (cx P kl n B) E H a w) (hK:∀c',RelV (cx P kl n B) E H c' v a w->K' (a.put o.dst c') w):o.wp P a w K' Q:=by
 obtain⟨Kk,G,hX,hS,hE,hdf,hn,hkp⟩:=hR;have hvf:=zw hE rfl fop hok.1;rw[hf]at hvf;simp only[VR]at hvf;obtain⟨cs,hcs,hcv⟩:=hvf;have hargs:=vf hE rfl c.args.toList hok.2;have hall:=hargs.append hcv;rw[hv]at hall;simp only[VRs]at hall;obtain⟨c',cs',hall1,hall2,rfl⟩:=hall;unfold Oper.wp;rw[J9 ho hc hcs,hall1,hs c' w];simp only[Oper.upon];exact hK c' ⟨Kk,G,hX,hS,hE,hdf,hn,hkp,hall2⟩
theorem dU{o:Oper}{l:List Oper}{f:FuncId}{v:Va}{g:Bool}(hs:NvI P f)(ha:Is (gc E o) (some (f,[v])))(hb:Is (fM ops.toList E o) (some g))(hok:fX n g E o)
  (cont:eS P kl n B ops K (eL P kl n ops.toList l ⟨eB E o.dst (gn o.guard g v),H,True⟩)):Rg P kl n B ops (o::l) E H K:=by
 unfold Is gc at ha;unfold Is fM at hb;split at ha
 rotate_left
 .cases ha
 rename_i c h1
 split at ha
 rotate_left
 .cases ha
 rename_i fop h3
 split at ha
 rotate_left
 .cases ha
 rename_i f' caps h4
 have ha':=Option.some.inj ha;obtain rfl:f'=f:=congrArg Prod.fst ha';have hv:opnds E c.args.toList++caps=[v]:=congrArg Prod.snd ha';obtain⟨hd,hk⟩:=ld hok h1 h3
 cases hg:o.guard with
 |none =>
  rw[hg]at hb;obtain rfl:true=g:=Option.some.inj hb;intro hB a w Q hR hK
  refine wpList_plain hg fun K' hK'=>?_
  refine J8 hs h1 h3 hk h4 hv hR fun c' hRV=>?_
  have c1:=cont;rw[vS hg]at c1;exact hK' _ _ (Rg.run c1 hB _ _ _ (hRV.put o.dst (zM hd)) hK)
 |some gw =>
  obtain⟨j,want⟩:=gw;rw[hg]at hb;intro hB a w Q hR hK;have hw:=nK hR hg hb
  refine wpList_step fun K' hK'=>?_
  cases g with
  |true =>
   rw[if_pos hw]
   refine J8 hs h1 h3 hk h4 hv hR fun c' hRV=>?_
   have c1:=cont;rw[rZ hg]at c1
   have hRV:RelV (cx P kl n B) E H c' (.cnd true v) a w:=by
    obtain⟨Kk,G,hX,hS,hE,hdf,hn,hkp,hv⟩:=hRV;exact⟨Kk,G,hX,hS,hE,hdf,hn,hkp,by simp only[VR];exact⟨fun _=>hv,fun e=>Bool.noConfusion e⟩⟩
   exact hK' _ _ (Rg.run c1 hB _ _ _ (hRV.put o.dst (zM hd)) hK)
  |false =>
   rw[if_neg (by rw[hw];simp)];obtain⟨Kk,G,hX,hS,hE,hdf,hn,hkp⟩:=hR;have hRV:RelV (cx P kl n B) E H undef (.cnd false v) a w:=⟨Kk,G,hX,hS,hE,hdf,hn,hkp,by simp[VR]⟩;have c1:=cont;rw[rZ hg]at c1;exact hK' _ _ (Rg.run c1 hB _ _ _ (hRV.put o.dst (zM hd)) hK)
end

theorem mZ{Z A:Type}{z:Z}{g:Bool}{a:Option A}{d:A}{k:A->Option Z}(h:callG g a d k=some z):∃x,(g=true->a=some x)/\(g=false->x=d)/\k x=some z:=by
 cases g with
 |true=>obtain⟨x,h1,h2⟩:=ze h;exact⟨x,fun _=>h1,fun e=>Bool.noConfusion e,h2⟩
 |false=>exact⟨d,fun e=>Bool.noConfusion e,fun _=>rfl,h⟩
theorem Rel.forget{C:Cx}{E:dY}{H:List Ob}{a:Act}{w:World}{ids:List Nat}{X:List Ob}(hX:ii ids H ids=some X)(hids:iS H.length ids=true)(hR:Rel C E H a w) :
  Rel C (fF (fg ids H) E) (eV (fc (fg ids H) H) ids (fO ids H.length X)) a w:=by
 obtain⟨Kk,G,h1,h2,h3,h4,h5,h6⟩:=hR;obtain⟨hnd,hlt⟩:=Ge hids;obtain⟨hl,hg⟩:=FX hX
 have hpl:(fc (fg ids H) H).length=H.length:=by rw[nH,length_map]
 have hM:Mn Kk Kk w.heap w.heap:=⟨fun _ h=>h,fun _ _=>rfl⟩
 have hMg:Mg (fg ids H) G G:=fun _ _ _ h=>h
 have hxl:ids.length<=(fO ids H.length X).length:=by rw[rU];omega
 have hlen:(eV (fc (fg ids H) H) ids (fO ids H.length X)).length=H.length:=by rw[BZ hxl,rU,hpl];omega
 have key:∀(o:Nat) (y:Ob),(eV (fc (fg ids H) H) ids (fO ids H.length X))[o]?=some y->∃x,H[o]?=some x/\(y=x∨y=x.prune (fg ids H)):=by
  intro o y hy
  rcases Ip hnd (fun i hi=>by rw[hpl];exact hlt i hi) hxl hy with⟨j,hj,h⟩|⟨_,_,h⟩|⟨j,hj,_,h⟩
  .rw[CO]at h
   obtain⟨x,hx,hr⟩:=hg j o hj;rw[hx]at h;simp only[Option.map_some,uD hr,Option.some.injEq]at h;have hol:=hlt o (mem_of_getElem? hj);rw[CH (getElem?_eq_getElem hol)]at h;exact⟨_,getElem?_eq_getElem hol,.inl h.symm⟩
  .rw[nH,getElem?_map]at h
   cases hx:H[o]? with
   |none=>rw[hx]at h;cases h
   |some x=>rw[hx]at h;exact⟨x,rfl,.inr (Option.some.inj h).symm⟩
  .have:=(List.getElem?_eq_some_iff.1 h).1
   rw[rU]at this;omega
 refine⟨Kk,G,h1,⟨by rw[hlen];exact h2.len,h2.kb,h2.gbo,h2.ijo,fun o g y hgo hy=>?_,h2.tb⟩,fun m=>by rw[qh];exact VR.prune hM hMg _ _ (h3 m),h4,h5,fun o ho=>?_⟩
 .obtain⟨x,hx,rfl|rfl⟩:=key o y hy
  .exact h2.ob o g _ hgo hx
  .exact ObR.prune hM hMg (fun _ _=>rfl) (h2.ob o g _ hgo hx)
 .obtain⟨x,hx,hk⟩:=h6 o ho
  have hol:=(List.getElem?_eq_some_iff.1 hx).1;obtain⟨x',hx',h⟩:=key o _ (getElem?_eq_getElem (by rw[hlen];exact hol))
  rw[hx]at hx';cases hx'
  refine⟨_,getElem?_eq_getElem (by rw[hlen];exact hol),?_⟩
  rcases h with h|h
  .rw[h];exact hk
  .rw[h];exact cw hk
section
variable {P:Program} {kl:List Bool} {n:Nat} {B:Bs} {ops:Array Oper} {K:dY->List Ob->Prop} {E:dY} {H:List Ob}
theorem dp{o:Oper}{l:List Oper}{f:FuncId}{av args:List Va}{X Y:List Ob}{g:Bool}{v:Va}(ids:List Nat)(hs:g=true->Does P f args X fun r X'=>r=v/\X'=Y)(hY:g=false->Y=X)(ha:Is (gc E o) (some (f,av)))(hb:Is (fM ops.toList E o) (some g))(hp:Is (ja ids av) (some args))(hXs:Is (ii ids H ids) (some X))(hids:iS H.length ids=true)(hok:fX n g E o)
  (cont:eS P kl n B ops K (eL P kl n ops.toList l ⟨eB (fF (fg ids H) E) o.dst (gn o.guard g (eH ids H.length v)),eV (fc (fg ids H) H) ids (fO ids H.length Y),True⟩)):Rg P kl n B ops (o::l) E H K:=by
 unfold Is gc at ha;unfold Is fM at hb;split at ha
 rotate_left
 .cases ha
 rename_i c h1
 split at ha
 rotate_left
 .cases ha
 rename_i fop h3
 split at ha
 rotate_left
 .cases ha
 rename_i f' caps h4
 cases ha;obtain⟨hd,hk⟩:=ld hok h1 h3;have hrun:=Rg.run cont;intro hB a w Q hR hKK
 cases hg:o.guard with
 |none =>
  rw[hg]at hb;obtain rfl:true=g:=Option.some.inj hb
  refine wpList_plain hg fun K' hK'=>?_
  rw[vS hg]at hrun
  refine xC ids (hs rfl) h1 h3 hk h4 hp hXs hids hR fun c' r X' w' ⟨h5,h6⟩ _ hRV=>?_
  subst h5;subst h6
  exact hK' _ _ (hrun hB _ _ _ (hRV.put o.dst (zM hd)) hKK)
 |some gw =>
  obtain⟨j,want⟩:=gw;rw[hg]at hb;have hw:=nK hR hg hb;rw[rZ hg]at hrun
  refine wpList_step fun K' hK'=>?_
  cases g with
  |true =>
   rw[if_pos hw]
   refine xC ids (hs rfl) h1 h3 hk h4 hp hXs hids hR fun c' r X' w' ⟨h5,h6⟩ _ hRV=>?_
   subst h5;subst h6
   exact hK' _ _ (hrun hB _ _ _ (RelV.put (v:=.cnd true _) (by
    obtain⟨Kk,G,q1,q2,q3,q4,q5,q6,q7⟩:=hRV
    exact⟨Kk,G,q1,q2,q3,q4,q5,q6,by simp only[VR];exact⟨fun _=>q7,fun e=>Bool.noConfusion e⟩⟩) o.dst (zM hd)) hKK)
  |false =>
   rw[if_neg (by rw[hw];simp)];rw[hY rfl]at hrun;obtain⟨Kk,G,hX,hS,hE,hdf,hn,hkp'⟩:=hR.forget hXs hids;exact hK' _ _ (hrun hB _ _ _ (RelV.put (C:=cx P kl n B) (v:=.cnd false _) ⟨Kk,G,hX,hS,hE,hdf,hn,hkp',by simp[VR]⟩ o.dst (zM hd)) hKK)
end

def CM(s:Nat)(H:List Ob):List Nat->Bool
 |[]=>true
 |i::ids=>((ed H i).kept||decide (i=s))&&CM s H ids
def FT(s:Nat)(H:List Ob)(ids:List Nat):Bool:=ids.contains s&&!(ed H s).kept&&CM s H ids
theorem ml{s:Nat}{H:List Ob}{ids:List Nat}(h:FT s H ids=true):fg ids H=(· != s):=by
 simp only[FT,Bool.and_eq_true]at h;obtain⟨⟨h1,h2⟩,h3⟩:=h
 have key:∀(l:List Nat) (o:Nat),CM s H l=true->o∈l->o≠s->(ed H o).kept=true:=by
  intro l
  induction l with
  |nil=>intro o _ ho;cases ho
  |cons i l ih =>
   intro o hr ho hne;simp only[CM,Bool.and_eq_true,Bool.or_eq_true,decide_eq_true_eq]at hr
   rcases mem_cons.1 ho with rfl|ho
   .rcases hr.1 with h|h
    .exact h
    .exact absurd h hne
   .exact ih o hr.2 ho hne
 funext o
 simp only[fg]
 by_cases ho:o=s
 .subst ho
  have hk:(ed H o).kept=false:=by simpa using h2
  rw[h1,hk];simp
 .by_cases hm:o∈ids
  .rw[key ids o h3 hm ho];simp[ho]
  .have:ids.contains o=false:=by simpa using hm
   rw[this];simp[ho]
section
variable {P:Program} {kl:List Bool} {n:Nat} {B:Bs} {ops:List Oper} {K:dY->List Ob->Prop} {l:Plan} {obs:List En} {E:dY} {H:List Ob}
theorem dA{k:Nat}{L:List Nat}{f:FuncId}{av args:List Va}{X Y:List Ob}{o:Oper}{v:Va}(s:Nat)(ids:List Nat)(hs:Does P f args X fun r X'=>r=v/\X'=Y)(hk:Is ops[k]? (some o))(hg:Is o.guard none)(ha:Is (gc E o) (some (f,av)))(hp:Is (ja ids av) (some args))(hXs:Is (ii ids H ids) (some X))(hids:iS H.length ids=true)(hkp:FT s H ids=true)(hok:fX n true E o)
  (hag:nF L (some (· != s)) (eV (fc (· != s) H) ids (fO ids H.length Y)) obs)
  (cont:gy P kl n B ops.toArray K (fw P kl n ops l ⟨obs,eB (fF (· != s) E) o.dst (eH ids H.length v),eV (fc (· != s) H) ids (fO ids H.length Y),True⟩)):Br P kl n B ops.toArray k L l obs E H K:=by
 unfold Is at *;unfold gc at ha;split at ha
 rotate_left
 .cases ha
 rename_i c h1
 split at ha
 rotate_left
 .cases ha
 rename_i fop h3
 split at ha
 rotate_left
 .cases ha
 rename_i f' caps h4
 cases ha;obtain⟨hd,hk1,hk2⟩:=ld hok h1 h3;have h':=Dr.run cont;simp only at h';rw[<-g6 hk]at h';refine Br.eff (po:=some (· != s)) (fun _=>?_) hag h';intro E' hE' a w Q K' hR hK;have hop:=rQ (fU hk) hE';rw[h1]at hop;have hfo:eu E fop=eu E' fop:=hop fop (by simp[Op.operands,Call.operands,h3])
 have hag':Agree c.args.toList E E':=fun x hx=>hop x (by simp only[Op.operands,Call.operands,Array.toList_append,mem_append];exact .inr hx)
 rw[Agree.opOk hfo]at hk1;rw[Agree.allOk hag']at hk2;rw[Agree.opnd hfo]at h4;rw[Agree.opnds hag']at hp;rw[g6 hk]at hK;unfold wpOp;simp only[fU hk];rw[if_pos (by simp[Region.wanted,hg])];refine .inl (xC ids hs h1 h3 ⟨hk1,hk2⟩ h4 hp hXs hids hR fun c' r X' w' ⟨hr,hX⟩ _ hRV=>?_)
 subst hr;subst hX
 rw[ml hkp]at hRV;exact hK _ _ (hRV.put o.dst (zM hd))
end
attribute [go_sem] CM FT

theorem vR:∀a b:List (List Dt),gf (a++b)=gf a++gf b
 |[],b=>rfl
 |[]::a,b=>by simp only[cons_append,gf,vR a b]
 |[.i _ n]::a,b=>by simp only[cons_append,gf,vR a b]
 |[.b _]::a,b=>by simp only[cons_append,gf,vR a b]
 |[.s _]::a,b=>by simp only[cons_append,gf,vR a b]
 |[.l _]::a,b=>by simp only[cons_append,gf,vR a b]
 |[.a _]::a,b=>by simp only[cons_append,gf,vR a b]
 |[.r _]::a,b=>by simp only[cons_append,gf,vR a b]
 |(_::_::_)::a,b=>by simp only[cons_append,gf,vR a b]
theorem J2:∀a b:List (List Dt),fm (a++b)=(fm a/\fm b)
 |[],b=>by simp[fm]
 |[]::a,b=>by simp[fm]
 |[.i _ n]::a,b=>by simp[fm,J2 a b,and_assoc]
 |[.b _]::a,b=>by simp[fm]
 |[.s _]::a,b=>by simp[fm]
 |[.l _]::a,b=>by simp[fm]
 |[.a _]::a,b=>by simp[fm]
 |[.r _]::a,b=>by simp[fm]
 |(_::_::_)::a,b=>by simp[fm]
theorem j7(a b:List Int):strOf (a++b)=strOf a++strOf b:=by simp only[strOf,map_append]
theorem qq:strOf []=[]:=rfl
theorem nU(n:Int)(l:List Int):strOf (n::l)=UInt8.ofNat n.toNat::strOf l:=rfl
theorem LA(s:dX):strOf (Bz s)=s:=by
 simp only[strOf,Bz,map_map];refine Eq.trans (map_congr_left fun b _=>?_) (map_id _);simp
theorem LP(s:dX):(Bz s).length=s.length:=by simp only[Bz,length_map]
attribute [go_sem] vR J2 fm j7 qq nU gf LA LP
theorem sd{p:Prop}(h:p:=by(repeat' apply And.intro) <;> first|assumption|omega|(intros;omega)|(intro hg;simp only[Bool.and_eq_true,Bool.or_eq_true,Bool.not_eq_true',decide_eq_true_eq,decide_eq_false_iff_not]at hg;omega)|(simp only[Bool.and_eq_true,Bool.or_eq_true,Bool.not_eq_true',Bool.and_eq_false_iff,Bool.or_eq_false_iff,Bool.not_eq_false',decide_eq_true_eq,decide_eq_false_iff_not];omega)|(intros;simp only[*,Bool.not_false,Bool.not_true,Bool.and_self,Bool.or_self,Bool.and_true,Bool.true_and,Bool.and_false,Bool.or_true,Bool.or_false];done)|(simp_all;done)|(simp_all <;> intros <;> omega)|grind):p:=h

theorem St.cell{K:Nat->Prop}{G:List Gh}{H:List Ob}{w:World}(hS:St K G H w){o off:Nat}{T:TypeId}{vs:List Va}{v':Va}(ho:H[o]?=some (.cells T vs))(h:∀c v,vs[off]?=some v->VR K w.heap G c v->VR K w.heap G c v') :
  St K G (H.set o (.cells T (vs.set off v'))) w:=by
 have hol:=(List.getElem?_eq_some_iff.1 ho).1;refine⟨by simpa using hS.len,hS.kb,hS.gbo,hS.ijo,fun i g x hg hx=>?_,hS.tb⟩
 by_cases e:i=o
 .subst e
  rw[getElem?_set_self hol]at hx;cases hx;obtain⟨b,cs,r1,r2,r3⟩:=hS.ob i g _ hg ho;refine⟨b,cs,r1,r2,?_⟩
  cases hv:vs[off]? with
  |none=>rwa [set_eq_of_length_le (by rw[List.getElem?_eq_none_iff]at hv;exact hv)]
  |some v =>
   obtain⟨c0,hc0,hv0⟩:=r3.get off _ hv;have:=r3.set (h _ _ hv hv0) off
   rwa [show cs.set off c0=cs by
    apply ext_getElem?;intro j
    by_cases hj:off=j
    .subst hj;rw[getElem?_set_self (List.getElem?_eq_some_iff.1 hc0).1,hc0]
    .rw[getElem?_set_ne hj]]at this
 .rw[getElem?_set_ne (Ne.symm e)]at hx
  exact hS.ob i g x hg hx
theorem Does.np{P:Program}{f:FuncId}{args:List Va}{T:TypeId}{vs vs':List Va}{X Y:List Ob}{v:Va}
  (h1:Does P f args (.cells T (.nil::vs)::X) fun r Z=>r=v/\Z=.cells T (.ptr 0 0::vs')::Y)
  (h2:Does P f args (.cells T (.ptr 0 0::vs)::X) fun r Z=>r=v/\Z=.cells T (.ptr 0 0::vs')::Y) :
  Does P f args (.cells T (.np 0::vs)::X) fun r Z=>r=v/\Z=.cells T (.np 0::vs')::Y:=by
 refine⟨h1.1,fun K G w vals hS hv=>?_⟩
 have fin:∀{e:Ending} {w':World},(∃c r X' K' G',e=.returned c/\(r=v/\X'=.cells T (.ptr 0 0::vs')::Y)/\Ext (en (true::kinds X)) K G w K' G' w'/\St K' G' X' w'/\VR K' w'.heap G' c r/\fC (en (true::kinds X)) X') ->
   ∃c r X' K' G',e=.returned c/\(r=v/\X'=.cells T (.np 0::vs')::Y)/\Ext (en (true::kinds X)) K G w K' G' w'/\St K' G' X' w'/\VR K' w'.heap G' c r/\fC (en (true::kinds X)) X':=by
  rintro e w' ⟨c,r,X',K',G',e1,⟨e2,rfl⟩,e3,e4,e5,e6⟩;refine⟨c,r,_,K',G',e1,⟨e2,rfl⟩,e3,?_,e5,fun i hi=>?_⟩
  .have:=e4.cell (o:=0) (off:=0) (v':=.np 0) rfl (fun c v hv hc=>by cases hv;simp only[VR]at *;exact .inr hc)
   simpa using this
  .obtain⟨x,hx,hk⟩:=e6 i hi
   cases i with
   |zero=>exact⟨_,rfl,rfl⟩
   |succ i=>exact⟨x,by simpa using hx,hk⟩
 -- the address
 have hlen:=hS.len
 have h0:∃g,G[0]?=some g:=by
  have:0<G.length:=by rw[hlen];simp
  exact⟨_,getElem?_eq_getElem this⟩
 obtain⟨g,hg⟩:=h0;obtain⟨b,cs,r1,r2,r3⟩:=hS.ob 0 g _ hg rfl;simp only[VRs]at r3;obtain⟨c0,cs0,rfl,hc0,hcs0⟩:=r3
 have key:∀v0,VR K w.heap G c0 v0->St K G (.cells T (v0::vs)::X) w:=by
  intro v0 hv0;refine⟨by simpa using hlen,hS.kb,hS.gbo,hS.ijo,fun i g' x hg' hx=>?_,hS.tb⟩
  cases i with
  |zero =>
   obtain rfl:g=g':=Option.some.inj (hg.symm.trans hg');cases hx;exact⟨b,c0::cs0,r1,r2,by simp only[VRs];exact⟨c0,cs0,rfl,hv0,hcs0⟩⟩
  |succ i=>exact hS.ob (i+1) g' x hg' (by simpa using hx)
 simp only[VR]at hc0
 rcases hc0 with hc0|hc0
 .exact(h1.2 K G w vals (key .nil (by simp only[VR];exact hc0)) hv).mono fun e w' hh=>fin hh
 .exact(h2.2 K G w vals (key (.ptr 0 0) (by simp only[VR];exact hc0)) hv).mono fun e w' hh=>fin hh

section
variable {α β:Type}
open Classical in
noncomputable def qa(p:α->Prop)(k:α->Option β):Option β:=if h:∃z,∀x,p x->k x=some z then some h.choose else none
omit [Tabs] in
theorem xJ{p:α->Prop}{k:α->Option β}{z:β}(h:qa p k=some z):∀x,p x->k x=some z:=by
 unfold qa at h;split at h
 .rename_i hh
  cases h;exact hh.choose_spec
 .cases h
omit [Tabs] in
theorem Gq{p:α->Prop}{k:α->Option β}{z:β}(h0:∃x,p x)(h:∀x,p x->k x=some z):qa p k=some z:=by
 have hh:∃z,∀x,p x->k x=some z:=⟨z,h⟩;unfold qa;rw[dif_pos hh];obtain⟨x,hx⟩:=h0;have h1:=hh.choose_spec x hx;rw[h x hx]at h1;exact h1.symm
end

section
variable {P:Program} {kl:List Bool} {n:Nat} {B:Bs} {ops:Array Oper} {K:dY->List Ob->Prop} {E:dY} {H:List Ob}
theorem Rg.any{o:Oper}{l:List Oper}(hg:o.guard=none)(hd:fz n o.dst){I:Va->List Ob->Prop}
  (hrun:∀a w,Rel (cx P kl n B) E H a w->∃c w' v H',(execOp a.eval o).run P w=.ok (.value c) w'/\I v H'/\RelV (cx P kl n B) E H' c v a w')
  (cont:∀v H',I v H'->eS P kl n B ops K (eL P kl n ops.toList l ⟨eB E o.dst v,H',True⟩)):Rg P kl n B ops (o::l) E H K:=by
 intro hB a w Q hR hK
 refine wpList_plain hg fun K' hK'=>?_
 obtain⟨c,w',v,H',h1,h2,h3⟩:=hrun a w hR;unfold Oper.wp;rw[h1];simp only[Oper.upon];exact hK' _ _ (Rg.run (cont v H' h2) hB _ _ _ (h3.put o.dst (zM hd)) hK)

theorem Wp.capO{Q:Qt}{c:Code}(i j o:Nat){T:TypeId}{vs:List Va}(hi:Is H[i]? (some (.cells T vs)))(hj:Is vs[j]? (some (.buf o))){m:Nat}(hm:Is ((gS H o).map List.length) (some m))
  (hc:∀cp:Nat,m<=cp->cp<=9223372036854775807->Wp P kl n B c Q E (H.set i (.cells T (vs.set j (.bufc o cp))))):Wp P kl n B c Q E H:=by
 unfold Is at hi hj hm;intro hB a w hR;have hR':=hR;obtain⟨Kk,G,r1,hS,r3,r4,r5,r6⟩:=hR
 cases hrb:gS H o with
 |none=>rw[hrb]at hm;cases hm
 |some rows =>
  rw[hrb]at hm;have hm':rows.length=m:=Option.some.inj hm;obtain⟨g,hg,hob⟩:=hS.ghost hi;obtain⟨b,cs,q1,q2,q3⟩:=hob;obtain⟨c0,_,hv0⟩:=q3.get j _ hj;simp only[VR]at hv0;obtain⟨go,hgo,rfl,a0,n0,cp0,hsv⟩:=hv0
  have key:m<=cp0/\cp0<=maxLen:=by
   unfold gS at hrb;split at hrb
   .rename_i T' bs ho
    cases hrb;obtain⟨hlim,hh⟩:=hS.ob _ go _ hgo (zn ho (by simp))
    have hbl:(bR bs).length=bs.length:=by simp[bR]
    rcases hh with⟨h1,rfl,_⟩|⟨b,cap,cur,fr,hsv2,hgb,hb,hfr,h4,h5,h6,h7,h8⟩
    .rw[h1]at hsv;cases hsv;simp[bR]at hm';subst hm';simp
    .rw[hsv2]at hsv;cases hsv;omega
   .obtain⟨⟨T',sz,rows',fx⟩,ho,hx⟩:=Option.map_eq_some_iff.1 hrb
    cases hx;simp only at hm';obtain⟨hlim,xs,hxs,hh⟩:=hS.bufOb ho hgo
    rcases hh with⟨⟨a,h1⟩,rfl,_⟩|⟨b,cap,cur,fr,hsv2,hgb,hb,hfr,h4,h5,h6,h7⟩
    .rw[h1]at hsv;cases hsv;simp at hm';subst hm';simp
    .rw[hsv2]at hsv;cases hsv;omega
  refine hc cp0 key.1 (by have:=key.2;simp only[maxLen]at this;omega) hB a w ⟨Kk,G,r1,hS.cell hi (fun c v hv hcv=>?_),r3,r4,r5,fun x hx=>?_⟩
  .rw[hj]at hv
   cases hv;simp only[VR]at hcv|-;obtain⟨g',hg',rfl,_⟩:=hcv;obtain rfl:g'=go:=Option.some.inj (hg'.symm.trans hgo);exact⟨g',a0,n0,cp0,hg',hsv,rfl,rfl⟩
  .obtain⟨y,hy,hk⟩:=r6 x hx
   by_cases e:x=i
   .subst e
    exact⟨_,getElem?_set_self (List.getElem?_eq_some_iff.1 hi).1,rfl⟩
   .exact⟨y,by rw[getElem?_set_ne (Ne.symm e)];exact hy,hk⟩
theorem Wp.capE{Q:Qt}{c:Code}(i j o cp:Nat){T:TypeId}{vs:List Va}(hi:Is H[i]? (some (.cells T vs)))(hj:Is vs[j]? (some (.bufc o cp)))
  (hc:Wp P kl n B c Q E (H.set i (.cells T (vs.set j (.buf o))))):Wp P kl n B c Q E H:=by
 unfold Is at hi hj;intro hB a w hR;obtain⟨Kk,G,r1,hS,r3,r4,r5,r6⟩:=hR;refine hc hB a w ⟨Kk,G,r1,hS.cell hi (fun c v hv hcv=>?_),r3,r4,r5,fun x hx=>?_⟩
 .rw[hj]at hv
  cases hv;simp only[VR]at hcv|-;obtain⟨g,a,n,cap,h1,h2,h3,_⟩:=hcv;exact⟨g,h1,h3,a,n,cap,h2⟩
 .obtain⟨y,hy,hk⟩:=r6 x hx
  by_cases e:x=i
  .subst e
   exact⟨_,getElem?_set_self (List.getElem?_eq_some_iff.1 hi).1,rfl⟩
  .exact⟨y,by rw[getElem?_set_ne (Ne.symm e)];exact hy,hk⟩
omit [Tabs] in
theorem mJ{Kt V:Type}(kd:Kt->Dt)(e:V->List Dt)(l:List (Kt×V)):(zj kd e l).length=l.length:=by simp[zj]
end
attribute [go_sem] mJ

section
variable {α β S:Type}
noncomputable def forM(f:α->S->(S->Option β)->(S->Option β)->Option β):Nat->List α->S->(S->Option β)->Option β
 |0,_,s,k=>k s
 |n+1,r,s,k=>qa (fun j:Nat=>j<r.length) fun j=>match r[j]? with
  |some x=>f x s (fun s'=>forM f n (r.eraseIdx j) s' k) k
  |none=>none
theorem Cu{z:β}{f:α->S->(S->Option β)->(S->Option β)->Option β}{n:Nat}{r:List α}{s:S}{F:S->Option β}(h:forM f n r s F=some z):∃k,(∀s,k s=some z->F s=some z)/\forM f n r s k=some z:=⟨F,fun _ h=>h,h⟩
theorem Fc{z:β}{f:α->S->(S->Option β)->(S->Option β)->Option β}{r:List α}{s:S}{k:S->Option β}(h:forM f r.length r s k=some z)(hr:r.length=0):k s=some z:=by
 rw[hr]at h;exact h
theorem Cs{z:β}{f:α->S->(S->Option β)->(S->Option β)->Option β}{r:List α}{s:S}{k:S->Option β}(h:forM f r.length r s k=some z){j:Nat}(hj:j<r.length) :
  ∃x nx,r[j]?=some x/\(∀s',nx s'=some z->forM f (r.eraseIdx j).length (r.eraseIdx j) s' k=some z)/\f x s nx k=some z:=by
 obtain⟨n,hn⟩:∃n,r.length=n+1:=⟨r.length-1,by omega⟩;rw[hn]at h;simp only[forM]at h;have h1:=xJ h j hj;rw[getElem?_eq_getElem hj]at h1;exact⟨r[j],fun s'=>forM f n (r.eraseIdx j) s' k,getElem?_eq_getElem hj,fun s' hs=>by rw[show(r.eraseIdx j).length=n by rw[length_eraseIdx,if_pos hj];omega];exact hs,h1⟩
def left:List Nat->List Nat->List α->List α
 |b::bs,seen,x::l=>bif seen.contains b then left bs seen l else x::left bs seen l
 |_,_,_=>[]
theorem me:∀(bs:List Nat) (l:List α),l.length=bs.length->left bs [] l=l
 |[],[],_=>rfl
 |b::bs,x::l,h=>by simp only[left,contains_nil,cond_false];rw[me bs l (by simpa using h)]
 |[],_::_,h=>by simp at h
 |_::_,[],h=>by simp at h
theorem Kl{γ:Type}{seen:List Nat}:∀{bs:List Nat} {l:List α} {m:List γ},l.length=bs.length->m.length=bs.length->(left bs seen l).length=(left bs seen m).length
 |[],[],[],_,_=>rfl
 |b::bs,x::l,y::m,h,h'=>by
  have ih:=Kl (seen:=seen) (bs:=bs) (l:=l) (m:=m) (by simpa using h) (by simpa using h');simp only[left]
  cases seen.contains b <;> simp[ih]
 |[],_::_,_,h,_=>by simp at h
 |[],[],_::_,_,h=>by simp at h
 |_::_,[],_,h,_=>by simp at h
 |_::_,_::_,[],_,h=>by simp at h
theorem Hq{γ:Type}(g:α->γ)(seen:List Nat):∀(bs:List Nat) (l:List α),left bs seen (l.map g)=(left bs seen l).map g
 |[],_=>by simp[left]
 |_::_,[]=>by simp[left]
 |b::bs,x::l=>by
  simp only[map_cons,left,Hq g seen bs l]
  cases seen.contains b <;> rfl
theorem Ij{γ:Type}(g:γ->Nat)(seen:List Nat):∀(l:List γ),left (l.map g) seen l=l.filter fun x=>!seen.contains (g x)
 |[]=>rfl
 |x::l=>by
  simp only[map_cons,left,Ij g seen l,filter_cons]
  cases seen.contains (g x) <;> rfl
theorem Co{Kt V:Type}(kd:Kt->Dt)(e:V->List Dt)(bs seen:List Nat)(l:List (Kt×V)):left bs seen (zj kd e l)=zj kd e (left bs seen l):=Hq _ seen bs l
structure k7(bs seen:List Nat)(j p st:Nat):Prop where
 hp:bs[p]?=some st
 er:∀{α:Type} (l:List α),l.length=bs.length->j<(left bs seen l).length/\left bs (seen++[st]) l=(left bs seen l).eraseIdx j/\(left bs seen l)[j]?=l[p]?
theorem md{b:Nat}{seen:List Nat}:∀{bs:List Nat},b∉bs->∀{α:Type} (l:List α),l.length=bs.length->left bs (seen++[b]) l=left bs seen l
 |[],_,_,l,_=>by cases l <;> rfl
 |c::bs,hb,_,[],h=>by simp at h
 |c::bs,hb,_,x::l,h=>by
  have hc:¬ c=b:=fun e=>hb (by simp[e])
  have:(seen++[b]).contains c=seen.contains c:=by
   rw[Bool.eq_iff_iff];simp[hc]
  simp only[left,this,md (fun h=>hb (mem_cons_of_mem _ h)) l (by simpa using h)]
theorem Av{bs seen:List Nat}(hn:bs.Nodup){j:Nat}(hj:j<(left bs seen bs).length):∃p st,k7 bs seen j p st/\(left bs seen bs)[j]?=some st:=by
 induction bs generalizing j with
 |nil=>simp[left]at hj
 |cons b bs ih =>
  have hn':=nodup_cons.1 hn
  have hc:∀{α:Type} (x:α) (l:List α) (sn:List Nat),left (b::bs) sn (x::l)=bif sn.contains b then left bs sn l else x::left bs sn l:=fun _ _ _=>rfl
  have hout:∀{α:Type} (l:List α),l.length=bs.length->left bs (seen++[b]) l=left bs seen l:=fun l hl=>md hn'.1 l hl
  cases hs:seen.contains b with
  |true =>
   have h1:left (b::bs) seen (b::bs)=left bs seen bs:=by rw[hc,hs];rfl
   rw[h1]at hj;obtain⟨p,st,⟨q1,q2⟩,q3⟩:=ih hn'.2 hj;refine⟨p+1,st,⟨by simpa using q1,?_⟩,by rw[h1];exact q3⟩;intro α l hl
   cases l with
   |nil=>simp at hl
   |cons x l =>
    have hs':(seen++[st]).contains b=true:=by simp at hs|-;exact .inl hs
    obtain⟨r1,r2,r3⟩:=q2 l (by simpa using hl);rw[hc,hs,hc,hs'];exact⟨r1,r2,by simpa using r3⟩
  |false =>
   have h1:left (b::bs) seen (b::bs)=b::left bs seen bs:=by rw[hc,hs];rfl
   rw[h1]at hj
   cases j with
   |zero =>
    refine⟨0,b,⟨rfl,?_⟩,by rw[h1];rfl⟩;intro α l hl
    cases l with
    |nil=>simp at hl
    |cons x l =>
     have hs':(seen++[b]).contains b=true:=by simp
     rw[hc,hs,hc,hs'];exact⟨by simp,by simp only[cond_true,cond_false,eraseIdx_zero,tail_cons];exact hout l (by simpa using hl),rfl⟩
   |succ j =>
    obtain⟨p,st,⟨q1,q2⟩,q3⟩:=ih hn'.2 (by simpa using hj);refine⟨p+1,st,⟨by simpa using q1,?_⟩,by rw[h1];simpa using q3⟩;intro α l hl
    cases l with
    |nil=>simp at hl
    |cons x l =>
     have hb:b≠st:=fun e=>hn'.1 (e ▸ mem_of_getElem? q1)
     have hs':(seen++[st]).contains b=false:=by simp at hs|-;exact⟨hs,hb⟩
     obtain⟨r1,r2,r3⟩:=q2 l (by simpa using hl);rw[hc,hs,hc,hs'];exact⟨by simpa using r1,by simp[r2],by simpa using r3⟩
end

section
variable {P:Program} {kl:List Bool} {n:Nat} {B:Bs} {Q:Qt} {E:dY} {H:List Ob}
theorem Wp.forM{Z S α:Type}{z:Z}{f:α->S->(S->Option Z)->(S->Option Z)->Option Z}{k:S->Option Z}{l:List α}{bs:List Nat}{c:Code}{s0:S}(live:List Nat->S->dY)(objs:List Nat->S->List Ob)(hb:l.length=bs.length)
  (h0:iV kl E H (live [] s0) (objs [] s0)) (hm:Vc.forM f l.length l s0 k=some z)
  (round:∀(seen:List Nat) (s:S),Vc.forM f (left bs seen l).length (left bs seen l) s k=some z->Wp P kl n B c (zS (fun E' H'=>∃seen' s',(left bs seen' l).length<(left bs seen l).length/\Vc.forM f (left bs seen' l).length (left bs seen' l) s' k=some z/\iV kl E' H' (live seen' s') (objs seen' s')) Q) (live seen s) (objs seen s)):Wp P kl n B (.loop c) Q E H:=by
 refine Wp.loop (S:=List Nat×S) (fun t=>live t.1 t.2) (fun t=>objs t.1 t.2) (fun t=>Vc.forM f (left bs t.1 l).length (left bs t.1 l) t.2 k=some z) (fun t=>(left bs t.1 l).length) ([],s0) h0 (by simp only[me bs l hb];exact hm) fun t h2=>(round t.1 t.2 h2).mono fun e E' H' h=>?_
 cases e with
 |normal=>obtain⟨sn,s',h3,h4,h5⟩:=h;exact⟨(sn,s'),h4,h3,h5⟩
 |_=>exact h
end

theorem MRs.left{K:Nat->Prop}{h:Array Obj}{ag:Bool}{seen:List Nat}:∀{mes:List MapEntry} {es:List (Dt×List Dt)},MRs K h ag mes es->MRs K h ag (mes.filter fun e=>!seen.contains e.born) (left (mes.map (·.born)) seen es)
 |[],[],_=>by simp[Vc.left,MRs]
 |e::mes,p::es,hm=>by
  simp only[MRs]at hm;have ih:=MRs.left (seen:=seen) hm.2.2;simp only[map_cons,Vc.left,filter_cons];cases seen.contains e.born
  .simp only[Bool.not_false,if_true,cond_false,MRs];exact⟨hm.1,hm.2.1,ih⟩
  .simpa using ih
 |[],_::_,hm=>by simp[MRs]at hm
 |_::_,[],hm=>by simp[MRs]at hm
theorem MRs.get{K:Nat->Prop}{h:Array Obj}{ag:Bool}:∀{mes:List MapEntry} {es:List (Dt×List Dt)} {p:Nat} {x:Dt×List Dt},MRs K h ag mes es->es[p]?=some x->∃e,mes[p]?=some e/\KR K h e.key x.1/\iz K h ag e.val x.2
 |[],[],p,x,_,hx=>by simp at hx
 |e::mes,y::es,0,x,hm,hx=>by
  simp only[MRs]at hm;simp at hx;subst hx;refine⟨e,rfl,hm.1,?_⟩
  cases ag <;> exact hm.2.1
 |e::mes,y::es,p+1,x,hm,hx=>by
  simp only[MRs]at hm
  simpa using MRs.get hm.2.2 (by simpa using hx)
 |[],_::_,_,_,hm,_=>by simp[MRs]at hm
 |_::_,[],_,_,hm,_=>by simp[MRs]at hm
def u9:Dt->Va
 |.a ds=>.agg (ds.map .p)
 |.b x=>.p (.b x)
 |.i k x=>.p (.i k x)
 |.s x=>.p (.s x)
 |.l x=>.p (.l x)
 |.r x=>.p (.r x)
theorem KR.va{K:Nat->Prop}{h:Array Obj}{G:List Gh}{v:Value}:∀{d:Dt},KR K h v d->VR K h G v (u9 d)
 |.a ds,⟨cs,h1,h2⟩=>by simp only[u9,VR];exact⟨cs,h1,DRs.vrs h2⟩
 |.b _,H=>by simpa only[u9,VR,KR]using H
 |.i _ _,H=>by simpa only[u9,VR,KR]using H
 |.s _,H=>by simpa only[u9,VR,KR]using H
 |.l _,H=>by simpa only[u9,VR,KR]using H
 |.r _,H=>by simpa only[u9,VR,KR]using H
attribute [go_sem] u9
theorem qF{K:Nat->Prop}{h:Array Obj}{G:List Gh}{ag:Bool}{v:Value}{row:List Dt}(hv:iz K h ag v row):VR K h G v (gD ag row):=by
 cases ag with
 |true =>
  obtain⟨cs,rfl,h2⟩:=hv;simp only[gD,cond_true,VR];exact⟨cs,rfl,DRs.vrs h2⟩
 |false =>
  obtain⟨d,rfl,h2⟩:=hv;simp only[gD,cond_false,tL,drop_zero]
  simpa only[VR]using h2
section
variable {K:Nat->Prop} {G:List Gh} {H:List Ob} {w:World}
theorem St.reob(hS:St K G H w){o:Nat}{g:Gh}{b:Nat}(hg:G[o]?=some g)(hb:g.blk=some b){x:Ob}(hx:ObR K w.heap G g x):St K G (H.set o x) w :=
 hS.modA hg hb rfl (fun _ _=>rfl) hx
end
theorem lO{P:Program}(w:World)(ty:TypeId){bq bm cl:Nat}{seen:List Nat}{mes:Array MapEntry}(e4:w.heap[bq]?=some (.mapIter (some bm) cl seen.toArray cl))(hbm:w.heap[bm]?=some (.map mes cl))
  (hunsup:(!seen.toArray.isEmpty&&!mes.isEmpty&&mes.all (fun e=>decide (e.born≥cl)))=false)
  (hold:(mes.filter fun e=>!seen.toArray.contains e.born).filter (fun e=>decide (e.born<cl))=mes.filter fun e=>!seen.contains e.born)
  (hnew:(mes.filter fun e=>!seen.toArray.contains e.born).filter (fun e=>decide (e.born≥cl))=#[]) :
  ((mes.filter fun e=>!seen.contains e.born).size=0/\(Instr.next (.pointer (some ⟨bq,0,none⟩)) false ty).run P w=.ok (.tuple #[.bool false]) w) ∨
  ∃(j:Nat) (hj:j<(mes.filter fun e=>!seen.contains e.born).size) (w1:World),(w1=w∨w1=w.drew) /\
   (Instr.next (.pointer (some ⟨bq,0,none⟩)) false ty).run P w=.ok (.tuple #[.bool true,(mes.filter fun e=>!seen.contains e.born)[j].key,(mes.filter fun e=>!seen.contains e.born)[j].val])
    { w1 with heap:=w1.heap.setIfInBounds bq (.mapIter (some bm) cl (seen++[(mes.filter fun e=>!seen.contains e.born)[j].born]).toArray cl) }:=by
 have hlt:bq<w.heap.size:=(Array.getElem?_eq_some_iff.1 e4).1;simp only[Instr.next,getObj,Sem.run_bind,Sem.run,e4,hbm,Result.andThen,hunsup,Bool.false_eq_true,if_false,hold,hnew,Array.append_empty];generalize (mes.filter fun e=>!seen.contains e.born)=L
 by_cases h0:L.size=0
 .left
  have:L=#[]:=Array.eq_empty_of_size_eq_zero h0;subst this;refine⟨rfl,?_⟩;simp[choose,Sem.run,Question.forced]
 .right
  have hne:L.isEmpty=false:=by simp[Array.isEmpty,h0]
  simp only[hne,Bool.false_eq_true,if_false,Array.empty_append,Array.size_map]
  have hch:∃(j:Nat) (w1:World),j<L.size/\(w1=w∨w1=w.drew)/\(choose (Question.mapNext L.size)).run P w=.ok j w1:=by
   by_cases hf:L.size<=1
   .exact⟨0,w,by omega,.inl rfl,by simp[choose,Sem.run,Question.forced,hf]⟩
   .exact⟨_,w.drew,Nat.mod_lt _ (by omega),.inr rfl,by
     simp only[choose,Sem.run,Question.forced,decide_eq_true_eq,hf,if_false,Question.cut]
     rfl⟩
  obtain⟨j,w1,hj,hal,hrun⟩:=hch;refine⟨j,hj,w1,hal,?_⟩
  have hset:(setObj bq (.mapIter (some bm) cl (seen.toArray.push L[j].born) cl)).run P w1=.ok () { w1 with heap:=w1.heap.setIfInBounds bq (.mapIter (some bm) cl (seen.toArray.push L[j].born) cl) }:=by
   have h1:w1.heap[bq]?=some (.mapIter (some bm) cl seen.toArray cl):=by rcases hal with rfl|rfl <;> exact e4
   simp[setObj,Sem.run,h1]
  simp only[hrun,Array.getElem?_map,Array.getElem?_eq_getElem hj,Option.map_some,Sem.run_bind,hset,Result.andThen];simp
section
variable {P:Program} {kl:List Bool} {n:Nat} {B:Bs} {ops:Array Oper} {K:dY->List Ob->Prop} {E:dY} {H:List Ob}
theorem Rg.range{o:Oper}{l:List Oper}{t:TypeId}{x:Operand}{i:Nat}{ag:Bool}{es:List (Dt×List Dt)}{kt et:TypeId}(ho:Is o.op (.range t x))(hg:Is o.guard none)(hd:fz n o.dst)(hk:opOk true E x)(hx:Is (opnd E x) (.mp i))(ht:Is (z7 P t) (.map kt et))(hi:Is (ed H i) (.mp ag es))
  (cont:∀(bs:List Nat) (cl:Nat),es.length=bs.length->bs.Nodup->(∀b∈bs,b<cl)->eS P kl n B ops K (eL P kl n ops.toList l ⟨eB E o.dst (.ptr H.length 0),H.set i (.mpb ag es bs cl)++[.it i cl []],True⟩)):Rg P kl n B ops (o::l) E H K:=by
 unfold Is at *;refine Rg.any hg hd (I:=fun v H'=>v=.ptr H.length 0/\∃bs cl,es.length=bs.length/\bs.Nodup/\(∀b∈bs,b<cl)/\H'=H.set i (.mpb ag es bs cl)++[.it i cl []]) ?_ ?_
 rotate_left
 .rintro v H' ⟨rfl,bs,cl,h1,h2,h3,rfl⟩
  exact cont bs cl h1 h2 h3
 intro a w hR;obtain⟨Kk,G,hX,hS,hE,hdf,hn,hkp⟩:=hR;have hvx:=zw hE rfl x hk;rw[hx]at hvx;simp only[VR]at hvx;obtain⟨g,b,hgi,hgb,ha⟩:=hvx;have hiH:=zn hi (by simp);obtain⟨hlim,b',mes,clock,hb',hbm,hmr,hst⟩:=hS.ob i g _ hgi hiH
 obtain rfl:b'=b:=by rw[hgb]at hb';exact(Option.some.inj hb').symm
 obtain⟨ti,ht',hk'⟩:=zH ht (by simp);have hu:=yo ht' hk';have hst':=(MapKept.stamped_iff mes clock).1 hst;have hil:i<G.length:=(List.getElem?_eq_some_iff.1 hgi).1;have hS1:=hS.reob hgi hgb (x:=.mpb ag es (mes.toList.map (·.born)) clock) ⟨hlim,b',mes,hgb,hbm,hmr,hst,rfl⟩;have hS2:=hS1.push (o:=.mapIter (some b') clock #[] clock) (x:=.it i clock []) (sv:=undef) ⟨w.heap.size,b',g,rfl,by rw[getElem?_append_left hil];exact hgi,hgb,heap_alloc_new w _⟩;have hM:=Mn.alloc hS.kb (.mapIter (some b') clock #[] clock)
 have hG:∀(o:Nat) (g:Gh),G[o]?=some g->(G++[⟨some w.heap.size,undef,[]⟩])[o]?=some g:=fun o g hg=>Mg.push G _ o g rfl hg
 refine⟨.pointer (some ⟨w.heap.size,0,none⟩),w.alloc (.mapIter (some b') clock #[] clock),.ptr H.length 0,H.set i (.mpb ag es (mes.toList.map (·.born)) clock)++[.it i clock []],?_,⟨rfl,_,clock,by rw[length_map];exact hmr.length.symm,hst'.2.1,by simpa using hst'.1,rfl⟩,?_⟩
 .have hrun:(Instr.range t (a.eval x)).run P w=.ok (.pointer (some ⟨w.heap.size,0,none⟩)) (w.alloc (.mapIter (some b') clock #[] clock)):=by
   rw[ha];simp[Instr.range,run_underlying hu,MapKept.run_getObj_map hbm,Result.andThen]
  obtain⟨dst,op,ty,pos,af,gd⟩:=o;cases ho;exact qg hrun
 .refine⟨Kk,G++[⟨some w.heap.size,undef,[]⟩],hX.trans (Ext.push _ _ undef),hS2,fun m=>VR.grow hM hG _ _ (hE m),hdf,hn,fun q hq=>?_,?_⟩
  .obtain⟨y,hy,hky⟩:=hkp q hq
   have hql:=(List.getElem?_eq_some_iff.1 hy).1
   by_cases e:q=i
   .subst e
    exact⟨_,by rw[getElem?_append_left (by simpa using hql)];exact getElem?_set_self hql,rfl⟩
   .exact⟨y,by rw[getElem?_append_left (by simpa using hql),getElem?_set_ne (Ne.symm e)];exact hy,hky⟩
  .simp only[VR]
   refine⟨⟨some w.heap.size,undef,[]⟩,w.heap.size,?_,rfl,rfl⟩;rw[<-hS.len,getElem?_append_right (Nat.le_refl _)];simp
theorem Rg.next{o:Oper}{l:List Oper}{x:Operand}{q i cl:Nat}{ag:Bool}{es:List (Dt×List Dt)}{bs seen:List Nat}(ho:Is o.op (.next x false))(hg:Is o.guard none)(hd:fz n o.dst)(hk:opOk true E x)(hx:Is (opnd E x) (.ptr q 0))(hq:Is (ed H q) (.it i cl seen))(hi:Is (ed H i) (.mpb ag es bs cl))
  (hkq:en kl q=false) (hb1:es.length=bs.length) (hb2:bs.Nodup) (hb3:∀b∈bs,b<cl)
  (he:(left bs seen bs).length=0->eS P kl n B ops K (eL P kl n ops.toList l ⟨eB E o.dst (.tup [.p (.b false)]),H,True⟩))
  (hs:∀(j p st:Nat),k7 bs seen j p st->eS P kl n B ops K (eL P kl n ops.toList l ⟨eB E o.dst (.tup [.p (.b true),.top,.top]),H.set q (.it i cl (seen++[st])),True⟩)):Rg P kl n B ops (o::l) E H K:=by
 unfold Is at *;refine Rg.any hg hd (I:=fun v H'=>((left bs seen bs).length=0/\v=.tup [.p (.b false)]/\H'=H)∨∃j p st,k7 bs seen j p st/\v=.tup [.p (.b true),.top,.top]/\H'=H.set q (.it i cl (seen++[st]))) ?_ ?_
 rotate_left
 .rintro v H' (⟨h1,rfl,rfl⟩|⟨j,p,st,h1,rfl,rfl⟩)
  .exact he h1
  .exact hs j p st h1
 intro a w hR;obtain⟨Kk,G,hX,hS,hE,hdf,hn,hkp⟩:=hR;have hvx:=zw hE rfl x hk;rw[hx]at hvx;simp only[VR]at hvx;obtain⟨gq,bq,hgq,hbq,ha⟩:=hvx;have hqH:=zn hq (by simp);have hiH:=zn hi (by simp);obtain⟨bq',bm,gm,e1,e2,e3,e4⟩:=hS.ob q gq _ hgq hqH
 obtain rfl:bq'=bq:=by rw[hbq]at e1;exact(Option.some.inj e1).symm
 obtain⟨hlim,b',mes,hb',hbm,hmr,hst,hborn⟩:=hS.ob i gm _ e2 hiH
 obtain rfl:b'=bm:=by rw[e3]at hb';exact(Option.some.inj hb').symm
 subst hborn
 have hlen:es.length=mes.toList.length:=by simpa using hb1
 have hunsup:(!seen.toArray.isEmpty&&!mes.isEmpty&&mes.all (fun e=>decide (e.born≥cl)))=false:=by
  cases hme:mes.isEmpty with
  |true=>simp
  |false =>
   have:mes.all (fun e=>decide (e.born≥cl))=false:=by
    rw[Array.all_eq_false']
    have hne:mes.toList≠[]:=by
     intro e0;have:mes=#[]:=Array.toList_eq_nil_iff.1 e0;subst this;simp at hme
    obtain⟨e0,r0,hcons⟩:=exists_cons_of_ne_nil hne;refine⟨e0,by rw[<-Array.mem_toList_iff,hcons];simp,?_⟩;have:=hb3 e0.born (by simp[hcons])
    simp;omega
   simp[this]
 have hseen:∀y:Nat,seen.toArray.contains y=seen.contains y:=by intro y;simp
 have hold:(mes.filter fun e=>!seen.toArray.contains e.born).filter (fun e=>decide (e.born<cl))=mes.filter fun e=>!seen.contains e.born:=by
  apply Array.toList_inj.1;simp only[Array.toList_filter,hseen];rw[filter_eq_self];intro e he;have:=(mem_filter.1 he).1
  simpa using hb3 e.born (by simp;exact⟨e,by simpa using this,rfl⟩)
 have hnew:(mes.filter fun e=>!seen.toArray.contains e.born).filter (fun e=>decide (e.born≥cl))=#[]:=by
  apply Array.toList_inj.1;simp only[Array.toList_filter,hseen];rw[filter_eq_nil_iff.2];intro e he;have:=(mem_filter.1 he).1;have:=hb3 e.born (by simp;exact⟨e,by simpa using this,rfl⟩)
  simp;omega
 have hlf:(left (mes.toList.map (·.born)) seen (mes.toList.map (·.born))).length=(mes.filter fun e=>!seen.contains e.born).size:=by
  rw[Kl (m:=mes.toList) (by simp) (by simp),Ij,<-Array.toList_filter,Array.length_toList]
 have hrr:=lO (P:=P) w o.type e4 hbm hunsup hold hnew
 have e0:∀{c:Value} {w':World},(Instr.next (a.eval x) false o.type).run P w=.ok c w'->(execOp a.eval o).run P w=.ok (.value c) w':=by
  intro c w' hr;obtain⟨dst,op,ty,pos,af,gd⟩:=o;cases ho;exact qg hr
 rw[<-ha]at hrr
 rcases hrr with⟨h0,hr⟩|⟨j,hj,w1,hw1,hr⟩
 .refine⟨_,_,.tup [.p (.b false)],H,e0 hr,.inl ⟨by rw[hlf];exact h0,rfl,rfl⟩,Kk,G,hX,hS,hE,hdf,hn,hkp,?_⟩
  simp only[VR,VRs,DR];exact⟨[.bool false],rfl,_,_,rfl,rfl,rfl⟩
 .obtain⟨p,st,hok,hst'⟩:=Av hb2 (by rw[hlf];exact hj)
  have hstb:st=(mes.filter fun e=>!seen.contains e.born)[j].born:=by
   rw[Hq (fun e:MapEntry=>e.born),Ij,<-Array.toList_filter,getElem?_map,Array.getElem?_toList,Array.getElem?_eq_getElem hj]at hst'
   simpa using hst'.symm
  rw[<-hstb]at hr;have hqb:bq'<w.heap.size:=(Array.getElem?_eq_some_iff.1 e4).1
  have hsz:w1.heap.size=w.heap.size:=by rcases hw1 with rfl|rfl <;> rfl
  have hhp:w1.heap=w.heap:=by rcases hw1 with rfl|rfl <;> rfl
  have hfr:∀y,y≠bq'->({ w1 with heap:=w1.heap.setIfInBounds bq' (.mapIter (some b') cl (seen++[st]).toArray cl) }:World).heap[y]?=w.heap[y]?:=fun y hy=>by simp[Ne.symm hy,hhp]
  have hqi:q≠i:=fun e=>by subst e;rw[hqH]at hiH;cases hiH
  have hMn:Mn Kk Kk w.heap ({ w1 with heap:=w1.heap.setIfInBounds bq' (.mapIter (some b') cl (seen++[st]).toArray cl) }:World).heap:=⟨fun _ h=>h,fun y hy=>hfr y fun e=>(hS.gb q gq _ hgq hbq).2 (e ▸ hy)⟩;have hS1:=hS.modA (x:=.it i cl (seen++[st])) hgq hbq (w':={ w1 with heap:=w1.heap.setIfInBounds bq' (.mapIter (some b') cl (seen++[st]).toArray cl) }) (by simp[hsz]) hfr ⟨bq',b',gm,hbq,e2,e3,by simp[hsz,hqb]⟩;refine⟨_,_,.tup [.p (.b true),.top,.top],H.set q (.it i cl (seen++[st])),e0 hr,.inr ⟨j,p,st,hok,rfl,rfl⟩,Kk,G,hX.trans (Ext.modA _ hgq hbq ?_ ?_ ?_ (by simp[hsz]) hfr),hS1,fun m=>VR.grow hMn (fun _ _ h=>h) _ _ (hE m),hdf,hn,fun y hy=>?_,?_⟩
  .rcases hw1 with rfl|rfl <;> rfl
  .rcases hw1 with rfl|rfl
   .exact⟨rfl,fun _=>Nat.le_refl _⟩
   .exact⟨rfl,fun _=>Nat.le_succ _⟩
  .rcases hw1 with rfl|rfl <;> rfl
  .have hyq:y≠q:=fun e=>by subst e;rw[show en kl y=true from hy]at hkq;cases hkq
   obtain⟨z,hz,hkz⟩:=hkp y hy;exact⟨z,by rw[getElem?_set_ne (Ne.symm hyq)];exact hz,hkz⟩
  .simp only[VR,VRs,DR]
   exact⟨[.bool true,_,_],rfl,_,_,rfl,rfl,_,_,rfl,trivial,_,_,rfl,trivial,rfl⟩
theorem Rg.entry{o:Oper}{l:List Oper}{x:Operand}{q i cl p st:Nat}{ag:Bool}{es:List (Dt×List Dt)}{bs seen:List Nat}{d:Dt}{row:List Dt}(ho:Is o.op (.entry x))(hg:Is o.guard none)(hd:fz n o.dst)(hk:opOk true E x)(hx:Is (opnd E x) (.ptr q 0))(hq:Is (ed H q) (.it i cl (seen++[st])))(hi:Is (ed H i) (.mpb ag es bs cl))
  (hb2:bs.Nodup) (hp:bs[p]?=some st) (he:es[p]?=some (d,row))
  (cont:eS P kl n B ops K (eL P kl n ops.toList l ⟨eB E o.dst (.tup [u9 d,gD ag row]),H,True⟩)):Rg P kl n B ops (o::l) E H K:=by
 unfold Is at *;refine Rg.any hg hd (I:=fun v H'=>v=.tup [u9 d,gD ag row]/\H'=H) ?_ (by rintro v H' ⟨rfl,rfl⟩;exact cont);intro a w hR;obtain⟨Kk,G,hX,hS,hE,hdf,hn,hkp⟩:=hR;have hvx:=zw hE rfl x hk;rw[hx]at hvx;simp only[VR]at hvx;obtain⟨gq,bq,hgq,hbq,ha⟩:=hvx;have hqH:=zn hq (by simp);have hiH:=zn hi (by simp);obtain⟨bq',bm,gm,e1,e2,e3,e4⟩:=hS.ob q gq _ hgq hqH
 obtain rfl:bq'=bq:=by rw[hbq]at e1;exact(Option.some.inj e1).symm
 obtain⟨hlim,b',mes,hb',hbm,hmr,hst,hborn⟩:=hS.ob i gm _ e2 hiH
 obtain rfl:b'=bm:=by rw[e3]at hb';exact(Option.some.inj hb').symm
 obtain⟨e,he1,he2,he3⟩:=hmr.get he
 have heb:e.born=st:=by
  rw[<-hborn,getElem?_map,he1]at hp
  simpa using hp
 have hf:mes.find? (·.born == st)=some e:=by
  rw[<-Array.find?_toList,<-heb];exact find_born e mes.toList (by rw[hborn];exact hb2) (mem_of_getElem? he1)
 have hr:(Instr.entry (a.eval x)).run P w=.ok (.tuple #[e.key,e.val]) w:=by
  rw[ha]
  have:(seen++[st]).toArray.back?=some st:=by simp
  simp only[Instr.entry,getObj,Sem.run_bind,Sem.run,e4,hbm,Result.andThen,this,bne_self_eq_false,Bool.false_eq_true,if_false,hf];rfl
 refine⟨.tuple #[e.key,e.val],w,_,H,?_,⟨rfl,rfl⟩,Kk,G,hX,hS,hE,hdf,hn,hkp,?_⟩
 .obtain⟨dst,op,ty,pos,af,gd⟩:=o
  cases ho;exact qg hr
 .simp only[VR,VRs]
  exact⟨[e.key,e.val],rfl,_,_,rfl,he2.va,_,_,rfl,qF he3,rfl⟩
end
section
variable {P:Program} {kl:List Bool} {n:Nat} {B:Bs} {Q:Qt} {E:dY} {H:List Ob}
theorem Wp.endM{c:Code}(i q:Nat){ag:Bool}{es:List (Dt×List Dt)}{bs seen:List Nat}{cl:Nat}(hi:Is (ed H i) (.mpb ag es bs cl))(hq:Is (ed H q) (.it i cl seen))(hk:en kl q=false)
  (hc:Wp P kl n B c Q E ((H.set i (.mp ag es)).set q .gone)):Wp P kl n B c Q E H:=by
 unfold Is at *;intro hB a w hR;obtain⟨K,G,r1,hS,r3,r4,r5,r6⟩:=hR;have hiH:=zn hi (by simp);have hqH:=zn hq (by simp);obtain⟨gi,hgi,hob⟩:=hS.ghost hiH;obtain⟨hlim,b,mes,e1,e2,e3,e4,e5⟩:=hob;obtain⟨gq,hgq,hobq⟩:=hS.ghost hqH;obtain⟨bq,bm,gm,q1,q2⟩:=hobq;have s1:=hS.reob hgi e1 (x:=.mp ag es) ⟨hlim,b,mes,cl,e1,e2,e3,e4⟩;have s2:=s1.reob hgq q1 (x:=.gone) trivial;refine hc hB a w ⟨K,G,r1,s2,r3,r4,r5,fun y hy=>?_⟩
 have hyq:y≠q:=fun e=>by subst e;rw[show en kl y=true from hy]at hk;cases hk
 obtain⟨z,hz,hkz⟩:=r6 y hy
 by_cases e:y=i
 .subst e
  exact⟨_,by rw[getElem?_set_ne (Ne.symm hyq)];exact getElem?_set_self (List.getElem?_eq_some_iff.1 hz).1,rfl⟩
 .exact⟨z,by rw[getElem?_set_ne (Ne.symm hyq),getElem?_set_ne (Ne.symm e)];exact hz,hkz⟩
end
section
variable {α β S:Type}
theorem Ct{z:β}{f:α->S->(S->Option β)->(S->Option β)->Option β}{k:S->Option β}{s':S}{bs seen:List Nat}{l:List α}{j p st:Nat}(hok:k7 bs seen j p st)(hb:l.length=bs.length)
  (h:forM f ((left bs seen l).eraseIdx j).length ((left bs seen l).eraseIdx j) s' k=some z):(left bs (seen++[st]) l).length<(left bs seen l).length/\forM f (left bs (seen++[st]) l).length (left bs (seen++[st]) l) s' k=some z:=by
 obtain⟨h1,h2,_⟩:=hok.er l hb;rw[h2];exact⟨by rw[length_eraseIdx,if_pos h1];omega,h⟩
theorem Fj{Kt V:Type}{kd:Kt->Dt}{e:V->List Dt}{l:List (Kt×V)}{p:Nat}{x:Kt×V}(h:l[p]?=some x):(zj kd e l)[p]?=some (kd x.1,e x.2):=by simp[zj,h]
theorem G8{Kt V:Type}{kd:Kt->Dt}{e:V->List Dt}{l:List (Kt×V)}{bs:List Nat}(h:(zj kd e l).length=bs.length):l.length=bs.length:=by rw[<-h,mJ]
end
section
variable {P:Program} {kl:List Bool} {n:Nat} {B:Bs} {ops:Array Oper} {K:dY->List Ob->Prop} {E:dY} {H:List Ob}
theorem cJ{o:Oper}{l:List Oper}{t u:TypeId}{x:Operand}{rows:List (List Dt)}{e:TypeId}{esz eb:Nat}{ez:List Value}(ho:Is o.op (.binOp .eql t x (.const (.slice none 0 0)) u))(hg:Is o.guard none)(hd:fz n o.dst)(hk:opOk true E x)(hx:Is (opnd E x) (.p (.l rows)))(ht:Is (z7 P t) (.slice e esz eb ez))
  (cont:∀b:Bool,(b=true->rows=[])->eS P kl n B ops K (eL P kl n ops.toList l ⟨eB E o.dst (.p (.b b)),H,True⟩)):Rg P kl n B ops (o::l) E H K:=by
 unfold Is at *;refine Rg.any hg hd (I:=fun v H'=>H'=H/\∃b:Bool,(b=true->rows=[])/\v=.p (.b b)) ?_ (by rintro v H' ⟨rfl,b,h1,rfl⟩;exact cont b h1);intro a w hR;obtain⟨Kk,G,hX,hS,hE,hdf,hn,hkp⟩:=hR;have hvx:=zw hE rfl x hk;rw[hx]at hvx;simp only[VR,DR]at hvx;obtain⟨ti,ht',hk'⟩:=zH ht (by simp);obtain⟨hu,_⟩:=iT ht' hk'
 have key:∃ad m cap,a.eval x=.slice ad m cap/\(ad.isNone=true->rows=[]):=by
  rcases hvx with⟨⟨ad,h1⟩,h2⟩|⟨b,off,cap,cs,T,fr,sz,vs,h1,_⟩
  .exact⟨ad,0,0,h1,fun _=>h2⟩
  .exact⟨_,_,_,h1,fun h=>by simp at h⟩
 obtain⟨ad,m,cap,hax,hnil⟩:=key;refine⟨.bool ad.isNone,w,_,H,?_,⟨rfl,ad.isNone,hnil,rfl⟩,Kk,G,hX,hS,hE,hdf,hn,hkp,by simp only[VR,DR]⟩;have hr:(binOp .eql t (.slice ad m cap) (.slice none 0 0)).run P w=.ok (.bool ad.isNone) w:=Lib.run_eql_slice_nil w t e ad m cap 0 0 hu;obtain⟨dst,op,ty,pos,af,gd⟩:=o;cases ho;have hgd:=LL (P:=P) (w:=w) .eql t x (.const (.slice none 0 0)) (.slice ad m cap) (.slice none 0 0) (by simp) (by simp)
 have:(do eqGuard .eql t x (.const (.slice none 0 0)) (a.eval x) (a.eval (.const (.slice none 0 0)));binOp .eql t (a.eval x) (a.eval (.const (.slice none 0 0))):Sem Value).run P w=.ok (.bool ad.isNone) w:=by
  rw[hax]
  show(do eqGuard .eql t x (.const (.slice none 0 0)) (.slice ad m cap) (.slice none 0 0);binOp .eql t (.slice ad m cap) (.slice none 0 0):Sem Value).run P w=_
  simp only[Sem.run_bind,hgd,Result.andThen_ok,hr]
 exact qg this
theorem Rg.clear{o:Oper}{l:List Oper}{c:Call}{t:TypeId}{x:Operand}{i sz a m:Nat}{T:TypeId}{rows:List (List Dt)}{e:TypeId}{eb:Nat}{ez:List Value}{z:List Dt}(ho:Is o.op (.call c))(hc:Is c.callee (.builtin .clear))(hca:Is c.args.toList [x])(hct:Is c.argTypes.toList [t])(hg:Is o.guard none)(hd:fz n o.dst)(hk:opOk true E x)
  (hx:Is (opnd E x) (.vw i sz a m)) (ht:Is (z7 P t) (.slice e sz eb ez)) {fx:Bool} (hi:Is (qc H i) (some (T,sz,rows,fx))) (hz:Is (eK (ez.map cv)) (some z)) (hzk:nC ez) (hzl:ez.length=sz) (hs0:0<sz)
  (cont:eS P kl n B ops K (eL P kl n ops.toList l ⟨eB E o.dst .top,H.set i (tm fx T sz (rows.take a++List.replicate m z++rows.drop (a+m))),True⟩)):Rg P kl n B ops (o::l) E H K:=by
 unfold Is at *;refine Rg.any hg hd (I:=fun v H'=>v=.top/\H'=H.set i (tm fx T sz (rows.take a++List.replicate m z++rows.drop (a+m)))) ?_ (by rintro v H' ⟨rfl,rfl⟩;exact cont);intro ac w hR;obtain⟨Kk,G,hX,hS,hE,hdf,hn,hkp⟩:=hR;have hvx:=zw hE rfl x hk;rw[hx]at hvx;simp only[VR]at hvx;obtain⟨g,ad,N,cap,hgi,hsv,hle,ad',cap',hax,hmc,hcc,hpos⟩:=hvx;obtain⟨ti,ht',hk'⟩:=zH ht (by simp);obtain⟨hu,⟨inf,hi1,hi2,hi3⟩,hez⟩:=iT ht' hk';have hiH:=H6 hi;obtain⟨hlim,xs,hxs,hh⟩:=hS.bufOb hi hgi
 have hzi:∃zv,inf.zero=some zv/\zv.cells.toList=ez:=by
  unfold vb at hez;rw[hi1]at hez;simp at hez;exact hez
 obtain⟨zv,hzv,hzc⟩:=hzi
 have hrl:rows.length=N:=by
  rcases hh with⟨⟨a0,h1⟩,rfl,_⟩|⟨b,cp,cur,fr,h1,_⟩
  .rw[hsv]at h1;cases h1;rfl
  .rw[hsv]at h1;cases h1;rfl
 have fin:∀(w':World),(Builtin.clear_ #[t] o.type #[ac.eval x]).run P w=.ok (.tuple #[]) w'->RelV (cx P kl n B) E (H.set i (tm fx T sz (rows.take a++List.replicate m z++rows.drop (a+m)))) (.tuple #[]) .top ac w'->∃c' w' v H',(execOp ac.eval o).run P w=.ok (.value c') w'/\(v=.top/\H'=H.set i (tm fx T sz (rows.take a++List.replicate m z++rows.drop (a+m))))/\RelV (cx P kl n B) E H' c' v ac w':=by
  intro w' hr hRV;refine⟨_,w',_,_,?_,⟨rfl,rfl⟩,hRV⟩;obtain⟨callee,args,argTypes⟩:=c;obtain⟨dst,op,ty,pos,af,gd⟩:=o;cases ho;simp only at hc hca hct hr;subst hc
  have ha:args=#[x]:=by cases args;simp_all
  have hat:argTypes=#[t]:=by cases argTypes;simp_all
  subst ha;subst hat
  simp[execOp,resolve,invoke,builtin,hr]
 rcases Nat.eq_zero_or_pos m with rfl|hm
 .have hsame:rows.take a++List.replicate 0 z++rows.drop (a+0)=rows:=by simp
  rw[hsame]at fin|-
  have hset:H.set i (tm fx T sz rows)=H:=by
   apply ext_getElem?;intro j
   by_cases e:j=i
   .subst e;rw[getElem?_set_self (List.getElem?_eq_some_iff.1 hiH).1,hiH]
   .rw[getElem?_set_ne (Ne.symm e)]
  rw[hset]at fin|-;refine fin w ?_ ⟨Kk,G,hX,hS,hE,hdf,hn,hkp,by simp only[VR]⟩;rw[hax]
  cases ad' <;> simp[Builtin.clear_,run_underlying hu]
 .obtain⟨b,hgb,had,had'⟩:=hpos (by omega)
  rcases hh with⟨_,_,h0⟩|⟨b',cp,cur,fr,h1,h2,h3,h4,h5,h6,h7,h8⟩
  .rw[hgb]at h0;cases h0
  obtain rfl:b'=b:=by rw[hgb]at h2;exact(Option.some.inj h2).symm
  have hzsz:zv.cells.size=sz:=by rw[<-hzl,<-hzc];simp
  have hzcells:(Builtin.zeroCells zv.cells m).toList=(List.replicate m ez).flatten:=by
   show(madeCells zv.cells (m*zv.cells.size)).toList=_
   rw[hzsz,C0 (by rw[hzc];exact hzl) hs0,hzc]
  have hzd:DRs Kk w.heap ez z:=lj (vL (G:=G) hzk) hz
  have hzl':z.length=sz:=by have:=hzd.length;omega
  have hnews:=DRss.replicate hzd m;rw[hzl']at hnews
  have hnl:((List.replicate m ez).flatten).length=m*sz:=by have:=hnews.length;simpa using this
  have hA:a*sz+m*sz<=rows.length*sz:=by rw[<-Nat.add_mul];exact Nat.mul_le_mul_right _ (by omega)
  have hC:rows.length*sz<=cur.size:=Nat.le_trans (Nat.mul_le_mul_right _ h5) h7;have hst:=GI (P:=P) b' (a*sz) T fr (List.replicate m ez).flatten 0 cur w h3 h4 (by omega) hnews.ones;simp only[Nat.add_zero]at hst;have hxl:xs=cur.toList.take (rows.length*sz):=h8.symm
  have hcl:(eP cur.toList (a*sz) (List.replicate m ez).flatten).length=cur.size:=by rw[B4 _ _ _ (by rw[hnl];simpa using (by omega:a*sz+m*sz<=cur.size))];simp
  have hlen':(rows.take a++List.replicate m z++rows.drop (a+m)).length=rows.length:=by simp;omega
  refine fin (w.setRow b' (eP cur.toList (a*sz) (List.replicate m ez).flatten).toArray) ?_ ?_
  .rw[hax,had']
   have hm0:m≠0:=by omega
   have hzr:(zeroValue e).run P w=.ok zv w:=by simp[zeroValue,typeInfo,hi1,hzv]
   obtain⟨m',rfl⟩:∃m',m=m'+1:=⟨m-1,by omega⟩;simp[Builtin.clear_,run_underlying hu,hzr,hzcells,hst]
  .have hfr2:∀y,y≠b'->(w.setRow b' (eP cur.toList (a*sz) (List.replicate m ez).flatten).toArray).heap[y]?=w.heap[y]?:=fun y hy=>setRow_other w b' y _ hy
   have hMn:Mn Kk Kk w.heap (w.setRow b' (eP cur.toList (a*sz) (List.replicate m ez).flatten).toArray).heap:=⟨fun _ h=>h,fun y hy=>hfr2 y fun e=>(hS.gb i g b' hgi h2).2 (e ▸ hy)⟩;refine⟨Kk,G,hX.trans (Ext.modA _ hgi h2 rfl ⟨rfl,fun _=>Nat.le_refl _⟩ rfl (setRow_size _ _ _) hfr2),hS.modA hgi h2 (setRow_size _ _ _) hfr2 (kw ▸ ⟨by rw[hlen'];exact hlim,xs.take (a*sz)++(List.replicate m ez).flatten++xs.drop ((a+m)*sz),?_,.inr ⟨b',cp,_,fr,by rw[hlen'];exact h1,h2,setRow_heap w b' cur _ T fr h3,?_,by rw[hlen'];exact h5,h6,?_,?_⟩⟩),fun q=>VR.grow hMn (fun _ _ h=>h) _ _ (hE q),hdf,hn,fun y hy=>?_,by simp only[VR]⟩
   .exact DRss.mono hMn _ _ _ (((DRss.take hxs a).append hnews).append (HF hxs))
   .simp only[size_toArray,hcl];exact h4
   .simp only[size_toArray,hcl];exact h7
   .rw[hlen',rG _ _ _ (by rw[hnl];simpa using (by omega:a*sz+m*sz<=cur.size)),hnl,hxl]
    have e1:((cur.toList.take (a*sz)++(List.replicate m ez).flatten)).length=a*sz+m*sz:=by rw[length_append,hnl,length_take];simp;omega
    show(cur.toList.take (a*sz)++(List.replicate m ez).flatten++cur.toList.drop (a*sz+m*sz)).take (rows.length*sz)=_
    rw[take_append,take_of_length_le (by omega),e1,take_take,Nat.min_eq_left (by omega),Nat.add_mul,drop_take]
   .obtain⟨q,hq,hkq⟩:=hkp y hy
    by_cases hyi:y=i
    .subst hyi
     rw[hiH]at hq;cases hq
     exact⟨_,getElem?_set_self (List.getElem?_eq_some_iff.1 hiH).1,by cases fx <;> first|rfl|exact hkq⟩
    .exact⟨q,by rw[getElem?_set_ne (Ne.symm hyi)];exact hq,hkq⟩
end
def sortS(l:List (List UInt8)):List (List UInt8):=l.mergeSort fun x y=>decide (x<=y)
theorem IE(l:List (List UInt8)):(sortS l).length=l.length:=by unfold sortS;simp
section
variable {P:Program} {kl:List Bool} {n:Nat} {B:Bs} {Q:Qt} {E:dY} {H:List Ob}
theorem cY{c:Code}(k o:Nat){T:TypeId}{sz:Nat}{rows:List (List Dt)}(hk:Is (eC E k) (.buf o)){fx:Bool}(ho:Is (qc H o) (some (T,sz,rows,fx)))(hc:Wp P kl n B c Q ((k,.vw o sz 0 rows.length)::E) H):Wp P kl n B c Q E H:=by
 unfold Is at *;intro hB a w hR;obtain⟨K,G,r1,hS,r3,r4,r5,r6⟩:=hR;refine hc hB a w ⟨K,G,r1,hS,fun m=>?_,r4,r5,r6⟩;simp only[eC];split
 .rename_i e
  subst e;have hv:=r3 k;rw[hk]at hv;simp only[VR]at hv|-;obtain⟨g,hg,hcv,a0,n0,cap0,hsv⟩:=hv;obtain⟨hlim,xs,hxs,hh⟩:=hS.bufOb ho hg;rw[hcv]
  rcases hh with⟨⟨a1,h1⟩,rfl,h3⟩|⟨b,cap,cur,fr,h1,h2,h3,h4,h5,h6,h7,h8⟩
  .exact⟨g,a1,0,0,hg,h1,by simp,a1,0,h1,by simp,by simp,by simp⟩
  .exact⟨g,_,_,cap,hg,h1,by simp,_,cap,h1,h5,by simp,fun _=>⟨b,h2,rfl,by simp⟩⟩
 .exact r3 m
end
section
variable {P:Program} {kl:List Bool} {n:Nat} {B:Bs} {Q:Qt} {E:dY} {H:List Ob}
theorem Wp.reob{c:Code}(o:Nat){x:Ob}(hk:en kl o=false)(hx:∀K G (w:World) g,St K G H w->G[o]?=some g->ObR K w.heap G g x)(ho:o<H.length)(hc:Wp P kl n B c Q E (H.set o x)):Wp P kl n B c Q E H:=by
 intro hB a w hR;obtain⟨K,G,r1,hS,r3,r4,r5,r6⟩:=hR
 have hol:o<G.length:=by rw[hS.len];exact ho
 have hS':St K G (H.set o x) w:=by
  refine⟨by simp[hS.len],hS.kb,hS.gbo,hS.ijo,fun i g y hg hy=>?_,hS.tb⟩
  by_cases e:i=o
  .subst e
   rw[getElem?_set_self ho]at hy;cases hy;exact hx K G w g hS hg
  .rw[getElem?_set_ne (Ne.symm e)]at hy
   exact hS.ob i g y hg hy
 refine hc hB a w ⟨K,G,r1,hS',r3,r4,r5,fun y hy=>?_⟩
 have hyo:y≠o:=fun e=>by subst e;rw[show en kl y=true from hy]at hk;cases hk
 obtain⟨z,hz,hkz⟩:=r6 y hy;exact⟨z,by rw[getElem?_set_ne (Ne.symm hyo)];exact hz,hkz⟩
theorem uA{K:Nat->Prop}{h:Array Obj}{bo:Option Nat}{sv c:Value}{T:TypeId}{sz n':Nat}{rows:List (List Dt)}{ad:Option Addr}{N cap:Nat}(hb:bufR K h bo sv T sz rows)(hsv:sv=.slice ad N cap)(hv:G5 c bo ad N cap sz 0 n') :
  ∃bn,bufR K h bn c T sz (rows.take n')/\(∀b,bn=some b->bo=some b)/\∃a n q,c=.slice a n q:=by
 obtain⟨hle,ad',cap',rfl,hnc,hcc,hpos⟩:=hv;obtain⟨hlim,xs,hxs,hh⟩:=hb
 have hlim':(rows.take n').length<=eh:=by rw[length_take];omega
 rcases Nat.eq_zero_or_pos cap' with rfl|hp
 .obtain rfl:n'=0:=by omega
  exact⟨none,⟨hlim',[],by simp[DRss],.inl ⟨⟨ad',rfl⟩,by simp,rfl⟩⟩,fun b hb=>by(cases hb),_,_,_,rfl⟩
 .obtain⟨b,hb1,hb2,hb3⟩:=hpos hp
  rcases hh with⟨_,_,h3⟩|⟨b',cap2,cur,fr,h1,h2,h3,h4,h5,h6,h7,h8⟩
  .rw[hb1]at h3;cases h3
  .rw[hsv]at h1
   injection h1 with e1 e2 e3
   subst e2;subst e3
   obtain rfl:b'=b:=by rw[hb1]at h2;exact(Option.some.inj h2).symm
   have hl:(rows.take n').length=n':=by rw[length_take];omega
   refine⟨some b',⟨hlim',xs.take ((rows.take n').length*sz),HG hxs,.inr ⟨b',cap',cur,fr,by rw[hb3,hl,Nat.zero_mul],rfl,h3,h4,by rw[hl];exact hnc,by omega,Nat.le_trans (Nat.mul_le_mul_right _ (by omega)) h7,?_⟩⟩,fun b hb=>by rw[<-hb];exact h2,_,_,_,rfl⟩;rw[<-h8,take_take,Nat.min_eq_left (Nat.mul_le_mul_right _ (by rw[hl];omega))]
theorem cU{c:Code}(k o:Nat){T:TypeId}{sz n':Nat}{rows:List (List Dt)}(hk:Is (eC E k) (.vw o sz 0 n'))(ho:Is (ed H o) (.buf T sz rows))(hkp:en kl o=false)(hc:Wp P kl n B c Q ((k,.buf o)::fF (· != o) E) ((fc (· != o) H).set o (.buf T sz (rows.take n')))):Wp P kl n B c Q E H:=by
 have hoH:=zn ho (by simp);intro hB a w hR;obtain⟨K,G,hX,hS,hE,hd,hn,hkk⟩:=hR;have h1:=hE k;unfold Is at hk;rw[hk]at h1;simp only[VR]at h1;obtain⟨g,ad,N,cap,hg,hsv,hv⟩:=h1;have hol:o<G.length:=(List.getElem?_eq_some_iff.1 hg).1;obtain⟨bn,hbn,hbo,hsl⟩:=uA (hS.ob o g _ hg hoH) hsv hv;have hM:Mn K K w.heap w.heap:=⟨fun _ h=>h,fun _ _=>rfl⟩
 let g1:Gh:=⟨bn,a.tmps.getD k undef,[]⟩
 have hMg:Mg (· != o) G (G.set o g1):=fun j g' hj hg'=>by rw[getElem?_set_ne (by simpa using Ne.symm (by simpa using hj))];exact hg'
 have hown:∀b,own g1 b->own g b:=fun b hb=>by
  rcases hb with hb|⟨_,hb,_⟩
  .exact .inl (hbo b hb)
  .cases hb
 refine hc hB a w ⟨K,G.set o g1,hX.trans (Ext.modB hg hkp rfl ⟨rfl,fun _=>Nat.le_refl _⟩ rfl (Nat.le_refl _) (fun _ _ _=>rfl) fun b hb=>.inl (hown b hb)),?_,fun m=>?_,hd,hn,fun j hj=>?_⟩
 .rw[nH]
  exact hS.modB hg (Nat.le_refl _) (fun _ _ _=>rfl) (fun b hb=>⟨(hS.gbo o g b hg (hown b hb)).1,.inl (hown b hb)⟩) (show bufR _ _ _ _ _ _ _ from hbn)
 .by_cases e:m=k
  .subst e
   rw[show eC ((m,Va.buf o)::fF (· != o) E) m=.buf o from by simp[eC]];simp only[VR];exact⟨g1,getElem?_set_self hol,rfl,hsl⟩
  .rw[show eC ((k,Va.buf o)::fF (· != o) E) m=eC (fF (· != o) E) m from by simp[eC,Ne.symm e],qh]
   exact VR.prune hM hMg _ _ (hE m)
 .obtain⟨vs,hvs,hkt⟩:=hkk j hj
  have hne:j≠o:=fun h=>by rw[h]at hj;rw[show en kl o=true from hj]at hkp;cases hkp
  refine⟨vs.prune (· != o),?_,cw hkt⟩;rw[getElem?_set_ne (Ne.symm hne),nH,getElem?_map,hvs];rfl
theorem cS{c:Code}(o:Nat){T:TypeId}{sz:Nat}{rows:List (List Dt)}(ho:Is (ed H o) (.buf T sz rows))(hk:en kl o=false)(hc:Wp P kl n B c Q E (H.set o (.fx T sz rows))):Wp P kl n B c Q E H:=by
 have hoH:=zn ho (by simp);exact Wp.reob o (x:=.fx T sz rows) hk (fun K G w g hS hg=>show ObR K w.heap G g (.buf T sz rows)from hS.ob o g _ hg hoH) (List.getElem?_eq_some_iff.1 hoH).1 hc
theorem dD{c:Code}(o:Nat){T:TypeId}{sz k p:Nat}{rows:List (List Dt)}{st:Option Nat}(ho:Is (ed H o) (.nst false T sz k p rows st))(hk:en kl o=false)(hc:Wp P kl n B c Q E (H.set o (.nst true T sz k p rows st))):Wp P kl n B c Q E H:=by
 have hoH:=zn ho (by simp);exact Wp.reob o (x:=.nst true T sz k p rows st) hk (fun K G w g hS hg=>show ObR K w.heap G g (.nst false T sz k p rows st)from hS.ob o g _ hg hoH) (List.getElem?_eq_some_iff.1 hoH).1 hc
theorem dF{c:Code}(o:Nat){T:TypeId}{sz k p:Nat}{rows:List (List Dt)}{st:Option Nat}(ho:Is (ed H o) (.nst true T sz k p rows st))(hk:en kl o=false)(hc:Wp P kl n B c Q E (H.set o (.nst false T sz k p rows st))):Wp P kl n B c Q E H:=by
 have hoH:=zn ho (by simp);exact Wp.reob o (x:=.nst false T sz k p rows st) hk (fun K G w g hS hg=>show ObR K w.heap G g (.nst true T sz k p rows st)from hS.ob o g _ hg hoH) (List.getElem?_eq_some_iff.1 hoH).1 hc
theorem wG{α:Type}{k:Nat}{f:α->List Dt}{g:α->List (List Dt)}{e:α->List Dt}(h:∀x,(f x).set k (.l (g x))=e x):∀l:List α,n9 k (l.map f) (l.map g)=l.map e
 |[]=>rfl
 |x::l=>by simp only[map_cons,n9,h x,wG h l]
theorem Cr{α:Type}{l:List α}{f:α->List (List Dt)}{d:α}{i:Nat}(hi:i<l.length)(z:List (List Dt)):(l.map f).getD i z=f (l.getD i d):=by
 simp[getD_eq_getElem?_getD,hi]
theorem wH{α β:Type}{l:List α}{f:α->β}{d:α}{i:Nat}{x:α}(hi:i<l.length)(h:f x=f (l.getD i d)):List.map f (List.set l i x)=List.map f l:=by
 rw[map_set,h]
 have:(l.map f)[i]?=some (f (l.getD i d)):=by simp[getD_eq_getElem?_getD,hi]
 obtain⟨h1,h2⟩:=List.getElem?_eq_some_iff.1 this;rw[<-h2];exact set_getElem_self h1
theorem cI{c:Code}(o:Nat){T:TypeId}{sz:Nat}{rows:List (List Dt)}(ho:Is (ed H o) (.fx T sz rows))(hk:en kl o=false)(hc:Wp P kl n B c Q E (H.set o (.buf T sz rows))):Wp P kl n B c Q E H:=by
 have hoH:=zn ho (by simp);exact Wp.reob o (x:=.buf T sz rows) hk (fun K G w g hS hg=>show ObR K w.heap G g (.fx T sz rows)from hS.ob o g _ hg hoH) (List.getElem?_eq_some_iff.1 hoH).1 hc
end
section
variable {P:Program} {kl:List Bool} {n:Nat} {B:Bs} {Q:Qt} {E:dY} {H:List Ob}
theorem dj{id:Nat}{l:List Oper}(h:eS P kl n B l.toArray (Q .normal) (eL P kl n l l ⟨E,H,True⟩)):Wp P kl n B (.region id l.toArray false) Q E H:=by
 intro hB a w hR;refine wp_region_lit ?_;have:=Rg.run (ops:=l.toArray) (l:=l) h
 exact this hB a w _ hR fun E' H' a' w' h1 h2=>⟨E',H',h1,h2⟩
theorem dN{id:Nat}{l:List Oper}{y:Code}(h:∀K:dY->List Ob->Prop,(∀E H,Wp P kl n B y Q E H->K E H)->(∀E H E' H',iV kl E H E' H'->K E' H'->K E H)->eS P kl n B l.toArray K (eL P kl n l l ⟨E,H,True⟩)):Wp P kl n B (.seq (.region id l.toArray false) y) Q E H :=
 ca fun K hK hW=>dj (Q:=zS K Q) (h K hK hW)
theorem cC{id:Nat}{os:List Oper}(plan:Plan)(hm:P.follows .mixedOrders=true)(hl:plan.length=os.length)(hp:g4 os.toArray plan [] (Array.replicate os.length false)=true)
  (h:Dr P kl n B os.toArray plan [] E H (Q .normal)):Wp P kl n B (.region id os.toArray true) Q E H:=by
 intro hB a w hR;refine wp_region_any hm ?_
 have hD:DC os.toArray (Array.replicate os.length false):=fun i hi=>by
  simp[Array.getD_eq_getD_getElem?,Array.getElem?_replicate]at hi
  split at hi <;> simp at hi
 have h1:=h hB (fun _ he=>by cases he) _ hD hp;rw[hl]at h1;rw[show os.toArray.size=os.length by simp]
 exact cK _ h1 (hR.drew _ (Nat.le_succ _)) fun E' H' a' w' h1 h2=>⟨E',H',h1,h2⟩
theorem dO{id:Nat}{os:List Oper}{y:Code}(plan:Plan)(hm:P.follows .mixedOrders=true)(hl:plan.length=os.length)(hp:g4 os.toArray plan [] (Array.replicate os.length false)=true)
  (h:∀K:dY->List Ob->Prop,(∀E H,Wp P kl n B y Q E H->K E H)->(∀E H E' H',iV kl E H E' H'->K E' H'->K E H)->gy P kl n B os.toArray K (fw P kl n os plan ⟨[],E,H,True⟩)):Wp P kl n B (.seq (.region id os.toArray true) y) Q E H :=
 ca fun K hK hW=>cC (Q:=zS K Q) plan hm hl hp (Dr.run (h K hK hW))
theorem dP{id:Nat}{os:List Oper}(plan:Plan)(hm:P.follows .mixedOrders=true)(hl:plan.length=os.length)(hp:g4 os.toArray plan [] (Array.replicate os.length false)=true)
  (h:∀K:dY->List Ob->Prop,(∀E H,Q .normal E H->K E H)->(∀E H E' H',iV kl E H E' H'->K E' H'->K E H)->gy P kl n B os.toArray K (fw P kl n os plan ⟨[],E,H,True⟩)):Wp P kl n B (.region id os.toArray true) Q E H:=by
 let K:dY->List Ob->Prop:=fun E H=>B.G0.length=kl.length->∀a w,Rel (cx P kl n B) E H a w->∃E' H',Q .normal E' H'/\Rel (cx P kl n B) E' H' a w
 have h1:=cC (id:=id) (Q:=zS K Q) plan hm hl hp (Dr.run (h K (fun E H hq _ a w hR=>⟨E,H,hq,hR⟩) (fun E H E' H' hw hk hB a w hR=>hk hB a w (Rel.cut hB hR hw))));intro hB a w hR;refine wp_mono (h1 hB a w hR) ?_;intro e a' w' ⟨E',H',hq,hR'⟩
 cases e <;> first|exact hq hB a' w' hR'|exact⟨E',H',hq,hR'⟩
end
section
variable {P:Program} {kl:List Bool} {n:Nat} {B:Bs} {K:dY->List Ob->Prop} {E:dY} {H:List Ob}
theorem Rg.skipG{ops:Array Oper}{o:Oper}{l:List Oper}{v:Va}{gw:Nat×Bool}(hg:Is o.guard (some gw))(hb:Is (fM ops.toList E o) (some false))(hd:fz n o.dst)
  (cont:eS P kl n B ops K (eL P kl n ops.toList l ⟨eB E o.dst (.cnd false v),H,True⟩)):Rg P kl n B ops (o::l) E H K:=by
 unfold Is fM at *;obtain⟨j,want⟩:=gw;rw[hg]at hb;intro hB a w Q hR hK;have hw:=nK hR hg hb
 refine wpList_step fun K' hK'=>?_
 rw[if_neg (by rw[hw];simp)];obtain⟨Kk,G,hX,hS,hE,hdf,hn,hkp⟩:=hR;have hRV:RelV (cx P kl n B) E H undef (.cnd false v) a w:=⟨Kk,G,hX,hS,hE,hdf,hn,hkp,by simp[VR]⟩;exact hK' _ _ (Rg.run cont hB _ _ _ (hRV.put o.dst (zM hd)) hK)
def sZ(ops:List Oper)(o:Oper)(E:dY)(v:Va)(po:Option (Nat->Bool))(_:List Ob):Prop:=FE ops o E (.cnd false v) po
theorem Dr.skipG{ops:List Oper}{l:Plan}{obs:List En}{k:Nat}{o:Oper}{v:Va}{gw:Nat×Bool}(hk:Is ops[k]? (some o))(hg:Is o.guard (some gw))(hb:Is (fM ops E o) (some false))(hd:fz n o.dst)
  (cont:gy P kl n B ops.toArray K (fw P kl n ops l ⟨⟨k,E,.cnd false v,sZ ops o E v⟩::obs,eB E o.dst (.cnd false v),H,True⟩)):Dr P kl n B ops.toArray (.rd k l) obs E H K:=by
 unfold Is fM at *;obtain⟨j,want⟩:=gw;rw[hg]at hb;have h':=Dr.run cont;simp only at h';rw[<-g6 hk]at h'
 have hrd:∀H',Rdr P kl n B ops.toArray k E (.cnd false v) H':=by
  intro H' E' hE' a w Q K' hR hKK;rw[g6 hk]at hKK
  have hb':ib ops.toArray.toList E j want=some false:=by simpa using hb
  rw[<-xK (fU hk) hg hE']at hb';have hw:=nK hR hg hb';unfold wpOp;simp only[fU hk];rw[if_neg (by rw[hw];simp)];obtain⟨Kk,G,hX,hS,hE,hdf,hn,hkp⟩:=hR;exact hKK _ _ (RelV.put (C:=cx P kl n B) (v:=.cnd false v) ⟨Kk,G,hX,hS,hE,hdf,hn,hkp,by simp[VR]⟩ o.dst (zM hd))
 exact Dr.read (fun _=>hrd _) (fun _ po H' hre=>⟨hrd _,k5 hk hre⟩) h'
end
attribute [go_sem] sZ
attribute [go_sem] IE Option.getD_none Option.getD_some Nat.sub_zero Nat.zero_add drop_zero
def gu(i j o:Nat):Nat:=bif o == i then j else bif o == j then i else o
mutual
def gg(i j:Nat):Va->Va
 |.p x=>.p x
 |.nils=>.nils
 |.full r=>.full r
 |.rp r=>.rp r
 |.ptr o off=>.ptr (gu i j o) off
 |.cs o off=>.cs (gu i j o) off
 |.el o sz k off=>.el (gu i j o) sz k off
 |.buf o=>.buf (gu i j o)
 |.mp o=>.mp (gu i j o)
 |.np o=>.np (gu i j o)
 |.sd o=>.sd (gu i j o)
 |.vw o sz a n=>.vw (gu i j o) sz a n
 |.bufc o cp=>.bufc (gu i j o) cp
 |.nv o k=>.nv (gu i j o) k
 |.ne o sz k l off=>.ne (gu i j o) sz k l off
 |.fn f vs=>.fn f (j3 i j vs)
 |.agg vs=>.agg (j3 i j vs)
 |.tup vs=>.tup (j3 i j vs)
 |.nil=>.nil
 |.cnd t v=>.cnd t (gg i j v)
 |.raw v=>.raw v
 |.er v=>.er v
 |.top=>.top
def j3(i j:Nat):List Va->List Va
 |[]=>[]
 |v::vs=>gg i j v::j3 i j vs
end
def sB(i j:Nat):Ob->Ob
 |.cells T vs=>.cells T (j3 i j vs)
 |.it o cl seen=>.it (gu i j o) cl seen
 |.buf T sz rows=>.buf T sz rows
 |.fx T sz rows=>.fx T sz rows
 |.sb T bs=>.sb T bs
 |.mp ag es=>.mp ag es
 |.mpb ag es bs cl=>.mpb ag es bs cl
 |.nst f T sz k p rows st=>.nst f T sz k (gu i j p) rows st
 |.inn T sz ins=>.inn T sz ins
 |.gone=>.gone
 |.lost=>.lost
def wb(i j:Nat):dY->dY
 |[]=>[]
 |(m,v)::E=>(m,gg i j v)::wb i j E
def x6{A:Type}(i j:Nat)(l:List A):List A:=match l[i]?,l[j]? with
 |some x,some y=>(l.set i y).set j x
 |_,_=>l
def nT(i j:Nat):List Ob->List Ob
 |[]=>[]
 |x::H=>sB i j x::nT i j H
def v8(i j:Nat)(H:List Ob):List Ob:=((nT i j H).set i (ed (nT i j H) j)).set j (ed (nT i j H) i)
theorem sA(i j:Nat)(H:List Ob):nT i j H=H.map (sB i j):=by induction H <;> simp_all[nT]
theorem Af(i j o:Nat):gu i j o=if o=i then j else if o=j then i else o:=by
 unfold gu
 by_cases h1:o=i
 .subst h1;simp
 .rw[beq_false_of_ne h1,if_neg h1,cond_false]
  by_cases h2:o=j
  .subst h2;simp
  .rw[beq_false_of_ne h2,if_neg h2,cond_false]
theorem j4(i j o:Nat):gu i j (gu i j o)=o:=by
 simp only[Af]
 repeat' split
 all_goals omega
theorem oS{A:Type}{i j:Nat}{l:List A}(hi:i<l.length)(hj:j<l.length)(o:Nat):(x6 i j l)[o]?=l[gu i j o]?:=by
 unfold x6;rw[getElem?_eq_getElem hi,getElem?_eq_getElem hj];unfold gu
 by_cases h1:o=i
 .subst h1
  by_cases h2:j=o
  .subst h2;simp[hi]
  .simp only[beq_self_eq_true,cond_true]
   rw[getElem?_set_ne h2,getElem?_set_self hi,getElem?_eq_getElem hj]
 .rw[beq_false_of_ne h1]
  simp only[cond_false]
  by_cases h2:o=j
  .subst h2
   simp only[beq_self_eq_true,cond_true];rw[getElem?_set_self (by simpa using hj),getElem?_eq_getElem hi]
  .rw[beq_false_of_ne h2,cond_false,getElem?_set_ne (Ne.symm h2),getElem?_set_ne (Ne.symm h1)]
theorem l5{o:Nat}:∀{H:List Ob} {x:Ob},H[o]?=some x->ed H o=x:=by
 induction o with
 |zero=>intro H x h;cases H <;> simp_all[ed]
 |succ o ih=>intro H x h;cases H with
  |nil=>simp at h
  |cons y H=>simpa [ed]using ih (by simpa using h)
theorem sC{i j:Nat}{H:List Ob}(hi:i<H.length)(hj:j<H.length):v8 i j H=x6 i j (H.map (sB i j)):=by
 have h1:(H.map (sB i j))[i]?=some (sB i j H[i]):=by simp[hi]
 have h2:(H.map (sB i j))[j]?=some (sB i j H[j]):=by simp[hj]
 rw[v8,sA,x6,h1,h2,l5 h1,l5 h2]
theorem Ir{A:Type}{i j:Nat}{l:List A}:(x6 i j l).length=l.length:=by
 unfold x6
 split <;> simp
theorem Ae{i j o n:Nat}(hi:n<=i)(hj:n<=j)(ho:o<n):gu i j o=o:=by
 unfold gu;rw[beq_false_of_ne (by omega:o≠i),beq_false_of_ne (by omega:o≠j)];rfl
section
variable {K:Nat->Prop} {h:Array Obj} {G G':List Gh} {i j:Nat}
mutual
theorem nS(hG:∀(o:Nat) (g:Gh),G[o]?=some g->G'[gu i j o]?=some g):∀(c:Value) (v:Va),VR K h G c v->VR K h G' c (gg i j v)
 |_,.p x,H=>by simpa only[gg,VR]using H
 |_,.nils,H=>by simpa only[gg,VR]using H
 |_,.full r,H=>by simpa only[gg,VR]using H
 |_,.rp r,H=>by simpa only[gg,VR]using H
 |_,.ptr o off,H=>by simp only[gg,VR]at *;obtain⟨g,b,h1,h2⟩:=H;exact⟨g,b,hG o g h1,h2⟩
 |_,.cs o off,H=>by simp only[gg,VR]at *;obtain⟨g,b,h1,h2⟩:=H;exact⟨g,b,hG o g h1,h2⟩
 |_,.el o sz k off,H=>by simp only[gg,VR]at *;obtain⟨g,b,n,cap,h1,h2⟩:=H;exact⟨g,b,n,cap,hG o g h1,h2⟩
 |_,.buf o,H=>by simp only[gg,VR]at *;obtain⟨g,h1,h2⟩:=H;exact⟨g,hG o g h1,h2⟩
 |_,.mp o,H=>by simp only[gg,VR]at *;obtain⟨g,b,h1,h2⟩:=H;exact⟨g,b,hG o g h1,h2⟩
 |_,.np o,H=>by
  simp only[gg,VR]at *
  rcases H with H|⟨g,b,h1,h2⟩
  .exact .inl H
  .exact .inr ⟨g,b,hG o g h1,h2⟩
 |_,.sd o,H=>by simp only[gg,VR]at *;obtain⟨g,a,n,cap,h1,h2⟩:=H;exact⟨g,a,n,cap,hG o g h1,h2⟩
 |_,.vw o sz a n,H=>by simp only[gg,VR]at *;obtain⟨g,ad,N,cap,h1,h2⟩:=H;exact⟨g,ad,N,cap,hG o g h1,h2⟩
 |_,.bufc o cp,H=>by simp only[gg,VR]at *;obtain⟨g,a,n,cap,h1,h2⟩:=H;exact⟨g,a,n,cap,hG o g h1,h2⟩
 |_,.nv o k,H=>by simp only[gg,VR]at *;obtain⟨g,a,n,cap,h1,h2⟩:=H;exact⟨g,a,n,cap,hG o g h1,h2⟩
 |_,.ne o sz k l off,H=>by simp only[gg,VR]at *;obtain⟨g,b,n,cap,h1,h2⟩:=H;exact⟨g,b,n,cap,hG o g h1,h2⟩
 |_,.fn f vs,H=>by simp only[gg,VR]at *;obtain⟨cs,h1,h2⟩:=H;exact⟨cs,h1,CD hG cs vs h2⟩
 |_,.agg vs,H=>by simp only[gg,VR]at *;obtain⟨cs,h1,h2⟩:=H;exact⟨cs,h1,CD hG cs vs h2⟩
 |_,.tup vs,H=>by simp only[gg,VR]at *;obtain⟨cs,h1,h2⟩:=H;exact⟨cs,h1,CD hG cs vs h2⟩
 |_,.nil,H=>by simpa only[gg,VR]using H
 |_,.cnd t v,H=>by simp only[gg,VR]at *;exact⟨fun e=>nS hG _ v (H.1 e),H.2⟩
 |_,.raw v,H=>by simpa only[gg,VR]using H
 |_,.er v,H=>by simpa only[gg,VR]using H
 |_,.top,H=>by simp only[gg,VR]
theorem CD(hG:∀(o:Nat) (g:Gh),G[o]?=some g->G'[gu i j o]?=some g):∀(cs:List Value) (vs:List Va),VRs K h G cs vs->VRs K h G' cs (j3 i j vs)
 |_,[],H=>by simpa only[j3,VRs]using H
 |_,v::vs,H=>by
  simp only[j3,VRs]at *;obtain⟨c,cs',h1,h2,h3⟩:=H;exact⟨c,cs',h1,nS hG c v h2,CD hG cs' vs h3⟩
end
theorem Ad(hG:∀(o:Nat) (g:Gh),G[o]?=some g->G'[gu i j o]?=some g){g:Gh}{x:Ob}(H:ObR K h G g x):ObR K h G' g (sB i j x):=by
 cases x with
 |cells T vs=>obtain⟨b,cs,h1,h2,h3⟩:=H;exact⟨b,cs,h1,h2,CD hG cs vs h3⟩
 |it o cl seen=>obtain⟨b,bm,gm,h1,h2,h3⟩:=H;exact⟨b,bm,gm,h1,hG o gm h2,h3⟩
 |nst f T sz k p rows st=>obtain⟨h0,h1,gp,vs,h2,h3⟩:=H;exact⟨h0,h1,gp,vs,hG p gp h2,h3⟩
 |inn T sz ins=>exact H
 |_=>exact H
theorem wa{E:dY}:∀{m:Nat},eC (wb i j E) m=gg i j (eC E m):=by
 intro m
 induction E with
 |nil=>rfl
 |cons p E ih =>
  obtain⟨k,v⟩:=p;simp only[wb,eC];split
  .rfl
  .exact ih
end
section
variable {P:Program} {kl:List Bool} {n:Nat} {B:Bs} {Q:Qt} {E:dY} {H:List Ob} {a:Act} {w:World}
theorem Rel.swap{i j:Nat}(hB:B.G0.length=kl.length)(hi:kl.length<=i)(hj:kl.length<=j)(hil:i<H.length)(hjl:j<H.length)(h:Rel (cx P kl n B) E H a w):Rel (cx P kl n B) (wb i j E) (v8 i j H) a w:=by
 obtain⟨K,G,hX,hS,hE,hd,hn,hk⟩:=h
 have hiG:i<G.length:=by rw[hS.len];exact hil
 have hjG:j<G.length:=by rw[hS.len];exact hjl
 have hg:=fun o=>oS hiG hjG o
 have hG:∀(o:Nat) (g:Gh),G[o]?=some g->(x6 i j G)[gu i j o]?=some g:=fun o g ho=>by rw[hg,j4];exact ho
 have hH:∀o,(v8 i j H)[o]?=(H[gu i j o]?).map (sB i j):=fun o=>by rw[sC hil hjl,oS (by simpa using hil) (by simpa using hjl),getElem?_map]
 have hlt:∀o,o<kl.length->gu i j o=o:=fun o ho=>Ae hi hj ho
 refine⟨K,x6 i j G,?_,?_,fun m=>?_,hd,hn,fun o ho=>?_⟩
 .exact { hX with
   glen:=by rw[Ir];exact hX.glen
   gown:=fun o g b h1 hb=>by
    rw[hg]at h1;exact hX.gown _ g b h1 hb
   gsame:=fun o g0 ho h0=>by
    rw[hg,hlt o (by rw[<-hB];exact(List.getElem?_eq_some_iff.1 h0).1)]
    exact hX.gsame o g0 ho h0 }
 .refine⟨by rw[Ir,sC hil hjl,Ir,length_map];exact hS.len,hS.kb,fun o g b h1 h2=>hS.gbo _ g b (by rw[<-hg];exact h1) h2,fun o o' g g' b h1 h2 h3 h4=>?_,fun o g x h1 h2=>?_,hS.tb⟩
  .rw[hg]at h1 h2
   have:=hS.ijo _ _ g g' b h1 h2 h3 h4;rw[<-j4 i j o,this,j4]
  .rw[hg]at h1
   rw[hH]at h2;obtain⟨y,hy,rfl⟩:=Option.map_eq_some_iff.1 h2;exact Ad hG (hS.ob _ g y h1 hy)
 .rw[wa]
  exact nS hG _ _ (hE m)
 .obtain⟨x,hx,hkx⟩:=hk o ho
  refine⟨sB i j x,by rw[hH,hlt o (kB ho),hx];rfl,?_⟩
  cases x <;> exact hkx
theorem Wp.swap(i j:Nat){c:Code}(hi:kl.length<=i)(hj:kl.length<=j)(hil:i<H.length)(hjl:j<H.length)(h:Wp P kl n B c Q (wb i j E) (v8 i j H)):Wp P kl n B c Q E H:=fun hB a w hR=>h hB a w (Rel.swap hB hi hj hil hjl hR)
theorem dG{Z S:Type}{z:Z}{f:S->(S->Option Z)->(S->Option Z)->Option Z}{k:S->Option Z}{m:Nat}{c:Code}{s0:S}(i j:Nat)(hi:kl.length<=i)(hj:kl.length<=j)(live:S->dY)(objs:S->List Ob)(h0:iV kl E H (live s0) (objs s0))(hm:Vc.loopN m f s0 k=some z)
  (round:∀(s:S) (nx:S->Option Z),f s nx k=some z->Wp P kl n B c (zS (fun E' H'=>∃s',nx s'=some z/\(i<H'.length/\j<H'.length)/\iV kl (wb i j E') (v8 i j H') (live s') (objs s')) Q) (live s) (objs s)):Wp P kl n B (.loop c) Q E H :=
 Wp.loopN live objs h0 hm fun s nx h=>fun hB a w hR=>by
  refine wp_mono (round s nx h hB a w hR) ?_;intro e a' w' ⟨E',H',hq,hR'⟩
  cases e with
  |normal=>obtain⟨s',h3,h4,h5⟩:=hq;exact⟨wb i j E',v8 i j H',⟨s',h3,h5⟩,Rel.swap hB hi hj h4.1 h4.2 hR'⟩
  |_=>exact⟨E',H',hq,hR'⟩
structure Od(kl:List Bool)(K:dY->List Ob->Prop):Prop where
 weak:∀E H E' H',iV kl E H E' H'->K E' H'->K E H
 swap:∀i j E H,kl.length<=i->kl.length<=j->i<H.length->j<H.length->K (wb i j E) (v8 i j H)->K E H
theorem cV{id:Nat}{os:List Oper}{y:Code}(plan:Plan)(hm:P.follows .mixedOrders=true)(hl:plan.length=os.length)(hp:g4 os.toArray plan [] (Array.replicate os.length false)=true)
  (h:∀K:dY->List Ob->Prop,(∀E H,Wp P kl n B y Q E H->K E H)->Od kl K->gy P kl n B os.toArray K (fw P kl n os plan ⟨[],E,H,True⟩)):Wp P kl n B (.seq (.region id os.toArray true) y) Q E H:=by
 intro hB a w hR;refine wp_seq (wp_mono (cC (Q:=zS (fun E H=>Wp P kl n B y Q E H) Q) plan hm hl hp (Dr.run (h _ (fun _ _ h=>h) ⟨fun E H E' H' hw hk=>Wp.weak hw hk,fun i j E H h1 h2 h3 h4 hk=>Wp.swap i j h1 h2 h3 h4 hk⟩)) hB a w hR) ?_);intro e a' w' ⟨E',H',hq,hR'⟩
 cases e <;> first|exact hq hB a' w' hR'|exact⟨E',H',hq,hR'⟩
attribute [go_sem] wb gg j3 v8 sB nT gu
end

def Dt.flat:Dt->Bool
 |.l _=>false
 |.a _=>false
 |.r _=>false
 |_=>true
def mC:List Dt->Bool
 |[]=>true
 |d::ds=>d.flat&&mC ds
def Bm(rows:List (List Dt)):Prop:=∀r∈rows,mC r=true
theorem AW{α:Type}{e:α->List Dt}(h:∀x,mC (e x)=true)(l:List α):Bm (List.map e l):=fun r hr=>by
 obtain⟨x,_,rfl⟩:=mem_map.1 hr;exact h x
section
variable {K K':Nat->Prop} {h h':Array Obj}
theorem DR.flat{c:Value}:∀{d:Dt},d.flat=true->DR K h c d->DR K' h' c d
 |.b _,_,hd=>by simpa only[DR]using hd
 |.i _ _,_,hd=>by simpa only[DR]using hd
 |.s _,_,hd=>by simpa only[DR]using hd
 |.l _,hf,_=>by simp[Dt.flat]at hf
 |.a _,hf,_=>by simp[Dt.flat]at hf
 |.r _,hf,_=>by simp[Dt.flat]at hf
theorem DRs.flat:∀{ds:List Dt} {vs:List Value},mC ds=true->DRs K h vs ds->DRs K' h' vs ds
 |[],_,_,hd=>by simpa only[DRs]using hd
 |d::ds,vs,hf,hd=>by
  simp only[mC,Bool.and_eq_true]at hf;simp only[DRs]at *;obtain⟨v,vs',e,h1,h2⟩:=hd;exact⟨v,vs',e,DR.flat hf.1 h1,DRs.flat hf.2 h2⟩
theorem DRss.flat{sz:Nat}:∀{rows:List (List Dt)} {vs:List Value},Bm rows->DRss K h sz vs rows->DRss K' h' sz vs rows
 |[],_,_,hd=>by simpa only[DRss]using hd
 |r::rows,vs,hf,hd=>by
  simp only[DRss]at *;obtain⟨a,b,e,h1,h2,h3⟩:=hd;exact⟨a,b,e,h1,DRs.flat (hf r (by simp)) h2,DRss.flat (fun r' h'=>hf r' (by simp[h'])) h3⟩
end
theorem dh{K K':Nat->Prop}{h:Array Obj}{G G':List Gh}{g:Gh}{T:TypeId}{sz:Nat}{rows:List (List Dt)}(hf:Bm rows)(hx:ObR K h G g (.buf T sz rows)):ObR K' h G' g (.buf T sz rows):=by
 obtain⟨h1,xs,h2,h3⟩:=hx;exact⟨h1,xs,DRss.flat hf h2,h3⟩
theorem St.push1{K:Nat->Prop}{G:List Gh}{H:List Ob}{w:World}{g:Gh}{x:Ob}(hS:St K G H w)(hx:ObR K w.heap (G++[g]) g x)
  (hb:∀b,own g b->b<w.heap.size/\¬ K b/\∀(o:Nat) (g':Gh),G[o]?=some g'->¬ own g' b):St K (G++[g]) (H++[x]) w:=by
 have cs:∀{o:Nat} {g':Gh},(G++[g])[o]?=some g'->(o<G.length/\G[o]?=some g')∨(o=G.length/\g'=g):=by
  intro o g' h
  rcases Nat.lt_or_ge o G.length with h1|h1
  .rw[getElem?_append_left h1]at h;exact .inl ⟨h1,h⟩
  .rw[getElem?_append_right h1]at h
   rcases Nat.eq_zero_or_pos (o-G.length)with h2|h2
   .rw[h2]at h;simp at h;exact .inr ⟨by omega,h.symm⟩
   .rw[getElem?_eq_none (by simp;omega)]at h;cases h
 refine⟨by simp[hS.len],hS.kb,fun o g' b hg hgb=>?_,fun o o' g1 g2 b h1 h2 hb1 hb2=>?_,fun o g' y hg hy=>?_,hS.tb⟩
 .rcases cs hg with⟨_,h⟩|⟨_,rfl⟩
  .exact hS.gbo o g' b h hgb
  .exact⟨(hb b hgb).1,(hb b hgb).2.1⟩
 .rcases cs h1 with⟨_,e1⟩|⟨e1,rfl⟩ <;> rcases cs h2 with⟨_,e2⟩|⟨e2,rfl⟩
  .exact hS.ijo o o' g1 g2 b e1 e2 hb1 hb2
  .exact absurd hb1 ((hb b hb2).2.2 o g1 e1)
  .exact absurd hb2 ((hb b hb1).2.2 o' g2 e2)
  .omega
 .rcases cs hg with⟨hl,h⟩|⟨rfl,rfl⟩
  .rw[getElem?_append_left (by rw[<-hS.len];exact hl)]at hy
   exact ObR.keep ⟨fun _ h=>h,fun _ _=>rfl⟩ (f:=fun _=>true) (fun q g0 _ hq=>by rw[getElem?_append_left (List.getElem?_eq_some_iff.1 hq).1];exact hq) (fun _ _=>rfl) (Ob.all_true _) (hS.ob o g' y h hy)
  .rw[hS.len,getElem?_append_right (Nat.le_refl _)]at hy
   simp at hy;subst hy;exact hx
section
variable {P:Program} {kl:List Bool} {n:Nat} {B:Bs} {K:dY->List Ob->Prop} {E:dY} {H:List Ob}
theorem HJ{o:Oper}{c:Call}{fop:Operand}{f:FuncId}{caps args:List Va}{T:TypeId}{sz:Nat}{rows:List (List Dt)}(hs:Does P f args [] fun r X=>r=.buf 0/\X=[.buf T sz rows])(hfl:Bm rows)(ho:o.op=.call c)(hc:c.callee=.value fop)
  (hok:opOk true E fop/\allOk true E c.args.toList) (hf:opnd E fop=.fn f caps) (hp:g7 H (opnds E c.args.toList++caps)=some args) {a:Act} {w:World} {Q:Exit->Act->World->Prop} {K':Act->World->Prop} (hR:Rel (cx P kl n B) E H a w)
  (hK:∀c' w',RelV (cx P kl n B) E (H++[.buf T sz rows]) c' (.buf H.length) a w'->K' (a.put o.dst c') w'):o.wp P a w K' Q:=by
 obtain⟨Kk,G,hX,hS,hE,hdf,hn,hkp⟩:=hR;have hvf:=zw hE rfl fop hok.1;rw[hf]at hvf;simp only[VR]at hvf;obtain⟨cs,hcs,hcv⟩:=hvf;have hargs:=vf hE rfl c.args.toList hok.2;have hall:=vM hS hp (hargs.append hcv);unfold Oper.wp;rw[BM ho hc hcs hs.1];simp only[Oper.upon];refine(hs.2 (rN Kk G) [] w _ (St.nil (FZ hS) (hS.tb.mono ⟨fun _ h=>.inl h,fun _ _=>rfl⟩)) hall).mono ?_;rintro e w' ⟨c',r,X',K1,G1,rfl,⟨rfl,rfl⟩,hX1,hS1,hv,_⟩
 have fr:∀b,b<w.heap.size->w'.heap[b]?=w.heap[b]?:=fun b hb=>hX1.frame b hb (fun o g0 h=>by simp at h)
 have hA:=hS.after hX1;simp only[VR]at hv;obtain⟨g,hg,rfl,hgo⟩:=hv
 have hgl:G1=[g]:=by
  have hl:=hS1.len
  match G1,hl,hg with
  |[g'],_,hg=>simp at hg;rw[hg]
 subst hgl
 have hbn:∀b,own g b->w.heap.size<=b/\b<w'.heap.size:=fun b hb=>⟨(hX1.gown 0 g b hg hb).elim (fun⟨_,_,h,_⟩=>by simp at h) id,(hS1.gbo 0 g b hg hb).1⟩
 have hx:=hS1.ob 0 g (.buf T sz rows) hg rfl
 have hS2:St Kk (G++[g]) (H++[.buf T sz rows]) w':=hA.push1 (dh hfl hx) fun b hb=>⟨(hbn b hb).2,fun hk=>by have:=hS.kb b hk;have:=(hbn b hb).1;omega,fun o' g' h' e=>by have:=(hS.gbo o' g' b h' e).1;have:=(hbn b hb).1;omega⟩
 have hMg:Mg (fun _=>true) G (G++[g]):=fun q g0 _ hq=>by rw[getElem?_append_left (List.getElem?_eq_some_iff.1 hq).1];exact hq
 have cs:∀{o:Nat} {g':Gh},(G++[g])[o]?=some g'->(o<G.length/\G[o]?=some g')∨(o=G.length/\g'=g):=by
  intro o g' h
  rcases Nat.lt_or_ge o G.length with h1|h1
  .rw[getElem?_append_left h1]at h;exact .inl ⟨h1,h⟩
  .rw[getElem?_append_right h1]at h
   rcases Nat.eq_zero_or_pos (o-G.length)with h2|h2
   .rw[h2]at h;simp at h;exact .inr ⟨by omega,h.symm⟩
   .rw[getElem?_eq_none (by simp;omega)]at h;cases h
 have hX2:Ext (en kl) B.K0 B.G0 B.w0 Kk (G++[g]) w':=by
  refine hX.trans ⟨hX1.os,hX1.tape,hX1.output,hX1.size,fun _ h=>h,fun _ h=>.inl h,by simp,fun o' g' b h1 hb=>?_,fun o' g0 _ h0=>hMg o' g0 rfl h0,fun b hb _=>fr b hb⟩
  rcases cs h1 with⟨_,h⟩|⟨_,rfl⟩
  .exact .inl ⟨o',g',h,hb⟩
  .exact .inr (hbn b hb).1
 refine hK g.sv w' ⟨Kk,G++[g],hX2,hS2,fun m=>VR.keep (f:=fun _=>true) ⟨fun _ h=>h,fun b hb=>fr b (hS.kb b hb)⟩ hMg _ _ (Va.all_true _) (hE m),hdf,hn,fun y hy=>?_,?_⟩
 .obtain⟨z,hz,hk⟩:=hkp y hy
  exact⟨z,by rw[getElem?_append_left (List.getElem?_eq_some_iff.1 hz).1];exact hz,hk⟩
 .simp only[VR]
  exact⟨g,by rw[<-hS.len];simp,rfl,hgo⟩
end
section
variable {P:Program} {kl:List Bool} {n:Nat} {B:Bs} {ops:List Oper} {K:dY->List Ob->Prop} {l:Plan} {obs:List En} {E:dY} {H:List Ob}
theorem Br.callLN{k:Nat}{L:List Nat}{f:FuncId}{av args:List Va}{o:Oper}{T:TypeId}{sz:Nat}{rows:List (List Dt)}(hs:Does P f args [] fun r X=>r=.buf 0/\X=[.buf T sz rows])(hfl:Bm rows)(hk:Is ops[k]? (some o))(ha:Is (gc E o) (some (f,av)))(hb:Is (fM ops E o) (some true))(hp:Is (g7 H av) (some args))(hok:fX n true E o)
  (hag:nF L none (H++[.buf T sz rows]) obs)
  (cont:gy P kl n B ops.toArray K (fw P kl n ops l ⟨obs,eB E o.dst (gn o.guard true (.buf H.length)),H++[.buf T sz rows],True⟩)):Br P kl n B ops.toArray k L l obs E H K:=by
 unfold Is at *;unfold gc at ha;split at ha
 rotate_left
 .cases ha
 rename_i c h1
 split at ha
 rotate_left
 .cases ha
 rename_i fop h3
 split at ha
 rotate_left
 .cases ha
 rename_i f' caps h4
 cases ha;obtain⟨hd,hk1,hk2⟩:=ld hok h1 h3;have h':=Dr.run cont;simp only at h';rw[<-g6 hk]at h';refine Br.eff (po:=none) (fun _=>?_) hag h';intro E' hE' a w Q K' hR hK;have hop:=rQ (fU hk) hE';rw[h1]at hop;have hfo:eu E fop=eu E' fop:=hop fop (by simp[Op.operands,Call.operands,h3])
 have hag':Agree c.args.toList E E':=fun x hx=>hop x (by simp only[Op.operands,Call.operands,Array.toList_append,mem_append];exact .inr hx)
 rw[Agree.opOk hfo]at hk1;rw[Agree.allOk hag']at hk2;rw[Agree.opnd hfo]at h4;rw[Agree.opnds hag']at hp;rw[g6 hk]at hK;unfold wpOp;simp only[fU hk];unfold fM at hb
 cases hgd:o.guard with
 |none =>
  rw[hgd]at hb hK;rw[if_pos (by simp[Region.wanted,hgd])];exact .inl (HJ hs hfl h1 h3 ⟨hk1,hk2⟩ h4 hp hR fun c' w' hRV=>hK _ _ (hRV.put o.dst (zM hd)))
 |some gw =>
  obtain⟨j,want⟩:=gw;rw[hgd]at hb hK
  have hb':ib ops.toArray.toList E j want=some true:=by simpa using hb
  rw[<-xK (fU hk) hgd hE']at hb';have hw:=nK hR hgd hb';rw[if_pos hw]
  exact .inl (HJ hs hfl h1 h3 ⟨hk1,hk2⟩ h4 hp hR fun c' w' hRV=>hK _ _ (RelV.put (v:=.cnd true _) (by
   obtain⟨Kk,G,q1,q2,q3,q4,q5,q6,q7⟩:=hRV
   exact⟨Kk,G,q1,q2,q3,q4,q5,q6,by simp only[VR];exact⟨fun _=>q7,fun e=>Bool.noConfusion e⟩⟩) o.dst (zM hd)))
theorem Br.skipG{k:Nat}{L:List Nat}{o:Oper}{v:Va}{gw:Nat×Bool}(hk:Is ops[k]? (some o))(hg:Is o.guard (some gw))(hb:Is (fM ops E o) (some false))(hd:fz n o.dst)
  (cont:gy P kl n B ops.toArray K (fw P kl n ops l ⟨obs,eB E o.dst (.cnd false v),H,True⟩)):Br P kl n B ops.toArray k L l obs E H K:=by
 unfold Is fM at *;obtain⟨j,want⟩:=gw;rw[hg]at hb;have h':=Dr.run cont;simp only at h';rw[<-g6 hk]at h';exact Br.skip (fun _=>lV hk hg hb hd) h'
theorem Br.runT{k:Nat}{L:List Nat}{o:Oper}{gw:Nat×Bool}(hk:Is ops[k]? (some o))(hg:Is o.guard (some gw))(hb:Is (fM ops E o) (some true))(h:gy P kl n B ops.toArray K (fw P kl n ops l (mT n o L (iJ P E H o.op) ⟨obs,E,H,True⟩ (fH P (en kl) E H o.op)))):Br P kl n B ops.toArray k L l obs E H K:=by
 unfold Is fM at *;obtain⟨j,want⟩:=gw;rw[hg]at hb;have hok:=(rH h).2;have h':=Dr.run h;simp only[mT]at h';rw[<-g6 hk]at h';exact Br.eff (fun _=>pK (fU hk) hg (by simpa using hb) hok.1 hok.2.1) hok.2.2 h'
theorem dq{k:Nat}{L:List Nat}{f:FuncId}{av args:List Va}{X Y:List Ob}{o:Oper}{v:Va}(ids:List Nat)(hs:Does P f args X fun r X'=>r=v/\X'=Y)(hk:Is ops[k]? (some o))(ha:Is (gc E o) (some (f,av)))(hb:Is (fM ops E o) (some true))(hp:Is (ja ids av) (some args))(hXs:Is (ii ids H ids) (some X))(hids:iS H.length ids=true)(hok:fX n true E o)
  (hag:nF L (some (fg ids H)) (eV (fc (fg ids H) H) ids (fO ids H.length Y)) obs)
  (cont:gy P kl n B ops.toArray K (fw P kl n ops l ⟨obs,eB (fF (fg ids H) E) o.dst (gn o.guard true (eH ids H.length v)),eV (fc (fg ids H) H) ids (fO ids H.length Y),True⟩)):Br P kl n B ops.toArray k L l obs E H K:=by
 unfold Is at *;unfold gc at ha;split at ha
 rotate_left
 .cases ha
 rename_i c h1
 split at ha
 rotate_left
 .cases ha
 rename_i fop h3
 split at ha
 rotate_left
 .cases ha
 rename_i f' caps h4
 cases ha;obtain⟨hd,hk1,hk2⟩:=ld hok h1 h3;have h':=Dr.run cont;simp only at h';rw[<-g6 hk]at h';refine Br.eff (po:=some (fg ids H)) (fun _=>?_) hag h';intro E' hE' a w Q K' hR hK;have hop:=rQ (fU hk) hE';rw[h1]at hop;have hfo:eu E fop=eu E' fop:=hop fop (by simp[Op.operands,Call.operands,h3])
 have hag':Agree c.args.toList E E':=fun x hx=>hop x (by simp only[Op.operands,Call.operands,Array.toList_append,mem_append];exact .inr hx)
 rw[Agree.opOk hfo]at hk1;rw[Agree.allOk hag']at hk2;rw[Agree.opnd hfo]at h4;rw[Agree.opnds hag']at hp;rw[g6 hk]at hK;unfold wpOp;simp only[fU hk];unfold fM at hb
 cases hgd:o.guard with
 |none =>
  rw[hgd]at hb hK;rw[if_pos (by simp[Region.wanted,hgd])];refine .inl (xC ids hs h1 h3 ⟨hk1,hk2⟩ h4 hp hXs hids hR fun c' r X' w' ⟨hr,hX⟩ _ hRV=>?_)
  subst hr;subst hX
  exact hK _ _ (hRV.put o.dst (zM hd))
 |some gw =>
  obtain⟨j,want⟩:=gw;rw[hgd]at hb hK
  have hb':ib ops.toArray.toList E j want=some true:=by simpa using hb
  rw[<-xK (fU hk) hgd hE']at hb';have hw:=nK hR hgd hb';rw[if_pos hw];refine .inl (xC ids hs h1 h3 ⟨hk1,hk2⟩ h4 hp hXs hids hR fun c' r X' w' ⟨hr,hX⟩ _ hRV=>?_)
  subst hr;subst hX
  exact hK _ _ (RelV.put (v:=.cnd true _) (by
   obtain⟨Kk,G,q1,q2,q3,q4,q5,q6,q7⟩:=hRV
   exact⟨Kk,G,q1,q2,q3,q4,q5,q6,by simp only[VR];exact⟨fun _=>q7,fun e=>Bool.noConfusion e⟩⟩) o.dst (zM hd))
end
attribute [go_sem] Option.toArray Array.toList_append
section
variable {P:Program} {kl:List Bool} {n:Nat} {B:Bs} {K:dY->List Ob->Prop} {E:dY} {H:List Ob}
theorem Rg.callLN{ops:Array Oper}{o:Oper}{l:List Oper}{f:FuncId}{av args:List Va}{T:TypeId}{sz:Nat}{rows:List (List Dt)}(hs:Does P f args [] fun r X=>r=.buf 0/\X=[.buf T sz rows])(hfl:Bm rows)(ha:Is (rD E o) (some (f,av)))(hp:Is (g7 H av) (some args))(hok:fX n true E o)
  (cont:eS P kl n B ops K (eL P kl n ops.toList l ⟨eB E o.dst (.buf H.length),H++[.buf T sz rows],True⟩)):Rg P kl n B ops (o::l) E H K:=by
 obtain⟨c,fop,caps,e1,e2,e3,e4,e5⟩:=B7 ha;obtain⟨hd,hk⟩:=ld hok e1 e3;intro hB a w Q hR hKK
 refine wpList_plain e2 fun K' hK'=>?_
 exact HJ hs hfl e1 e3 hk e4 (by rw[<-e5];exact hp) hR fun c' w' hRV=>hK' _ _ (Rg.run cont hB _ _ _ (hRV.put o.dst (zM hd)) hKK)
end
open Go.Proofs Go.Shelf

section
variable {P:Program} {ρ:Ren}
theorem lE{K:Nat->Prop}{h:Array Obj}:∀{l:List (List UInt8)} {xs:List Value},DRss K h 1 xs (l.map fun x=>[Dt.s x])->xs=l.map encStr/\∀x∈l,x.length<=eh
 |[],xs,H=>by simp only[map_nil,DRss]at H;subst H;exact⟨rfl,by simp⟩
 |x::l,xs,H=>by
  simp only[map_cons,DRss]at H;obtain⟨a,b,rfl,_,h1,h2⟩:=H;simp only[DRs,DR]at h1;obtain⟨v,vs',rfl,⟨rfl,h3⟩,rfl⟩:=h1;obtain⟨rfl,h4⟩:=lE h2;refine⟨rfl,fun y hy=>?_⟩
  rcases mem_cons.1 hy with rfl|hy
  .exact h3
  .exact h4 y hy
theorem j6{K:Nat->Prop}{h:Array Obj}:∀{l:List (List UInt8)},(∀x∈l,x.length<=eh)->DRss K h 1 (l.map encStr) (l.map fun x=>[Dt.s x])
 |[],_=>by simp only[map_nil,DRss]
 |x::l,hl=>by
  simp only[map_cons,DRss,DRs,DR];exact⟨[encStr x],l.map encStr,rfl,rfl,⟨_,[],rfl,⟨rfl,hl x (by simp)⟩,rfl⟩,j6 fun y hy=>hl y (by simp[hy])⟩
theorem Does.sortS(L:SlLaysM.n6 P ρ)(hc:BK P (ρ.f 6))(T:TypeId)(l:List (List UInt8)) :
  Does P (ρ.f 6) [.buf 0] [.fx T 1 (l.map fun x=>[.s x])] (fun r Y=>r=.tup []/\Y=[.fx T 1 ((Vc.sortS l).map fun x=>[.s x])]):=by
 refine⟨hc,fun K G w vals hS hV=>?_⟩;simp only[VRs,VR]at hV;obtain⟨c0,r0,rfl,⟨g,hg,rfl,a0,n0,cap0,hsv0⟩,rfl⟩:=hV;obtain⟨hlim,xs,hxs,hh⟩:=hS.ob 0 g _ hg rfl;obtain⟨rfl,hle⟩:=lE hxs;simp only[length_map]at hlim hh
 have hg0:G.set 0 g=G:=by
  apply ext_getElem?;intro i
  by_cases e:i=0
  .subst e;rw[getElem?_set_self (List.getElem?_eq_some_iff.1 hg).1,hg]
  .rw[getElem?_set_ne (Ne.symm e)]
 rcases hh with⟨⟨a,h1⟩,h2,h3⟩|⟨b,cap,cur,fr,h1,h2,h3,h4,h5,h6,h7,h8⟩
 .have hl0:l=[]:=by simpa using h2
  subst hl0;rw[h1];refine(AnyM.slices_Sort_string_none L a 0 w).mono ?_;rintro e w' ⟨rfl,rfl⟩;refine⟨.tuple #[],.tup [],_,K,G,rfl,⟨rfl,rfl⟩,Ext.refl _ _ _ _,by simpa [Vc.sortS]using hS,?_,by simpa [Vc.sortS]using F3 [.fx T 1 (([]:List (List UInt8)).map fun x=>[Dt.s x])]⟩
  simp only[VR,VRs];exact⟨[],rfl,rfl⟩
 .have hb:b<w.heap.size:=(Array.getElem?_eq_some_iff.1 h3).1
  have hcs:cap<=cur.size:=by simpa using h7
  have hcell:∀j,j<l.length->cur[j]?=some (encStr l[j]!):=by
   intro j hj
   have:(cur.toList.take (l.length*1))[j]?=(l.map encStr)[j]?:=by rw[h8]
   rw[getElem?_take,if_pos (by omega),Array.getElem?_toList,getElem?_map,getElem?_eq_getElem hj]at this;rw[this];simp[hj]
  have hH:Sort.Holds encStr w b 0 l.toArray:=by
   intro j hj
   have hj':j<l.length:=by simpa using hj
   refine⟨?_,?_⟩
   .rw[Nat.zero_add,cell_of_row w b j cur T fr h3,hcell j hj']
    simp
   .have:=h4.out j (by omega)
    obtain⟨f1,f2⟩:=fr;simp only[World.frozen?,h3,Nat.zero_add]at this|-
    simpa using this
  rw[h1];refine(AnyM.slices_Sort_string L b 0 cap l w hH hb (by simp only[eh]at hlim;omega)).mono ?_;rintro e w' ⟨rfl,nn,os,rfl⟩;have hsl:=IE l
  have hget:∀i,i<w.heap.size->(Sort.grow (Sort.putRow encStr (Sort.ahead w nn) b 0 (Vc.sortS l).toArray) os).heap[i]?=if b=i then(w.heap[i]?).map (Sort.onCells (Sort.putCells encStr 0 (Vc.sortS l).toArray))else w.heap[i]?:=by
   intro i hi
   show(((w.heap.modify b (Sort.onCells (Sort.putCells encStr 0 (Vc.sortS l).toArray)))++os):Array Obj)[i]?=_
   rw[Array.getElem?_append_left (by simpa using hi),Array.getElem?_modify]
  have hput:(Sort.grow (Sort.putRow encStr (Sort.ahead w nn) b 0 (Vc.sortS l).toArray) os).heap[b]?=some (.cells (Sort.putCells encStr 0 (Vc.sortS l).toArray cur) T fr):=by
   rw[hget b hb,if_pos rfl,h3];rfl
  have hfr:∀i,i<w.heap.size->g.blk≠some i->(Sort.grow (Sort.putRow encStr (Sort.ahead w nn) b 0 (Vc.sortS l).toArray) os).heap[i]?=w.heap[i]?:=by
   intro i hi hib;rw[hget i hi,if_neg (fun e=>hib (by rw[h2,e]))]
  have hsz:w.heap.size<=(Sort.grow (Sort.putRow encStr (Sort.ahead w nn) b 0 (Vc.sortS l).toArray) os).heap.size:=by
   show w.heap.size<=((w.heap.modify b _)++os:Array Obj).size
   simp
  have hpc:(Sort.putCells encStr 0 (Vc.sortS l).toArray cur).size=cur.size:=by simp[Sort.putCells]
  have htake:(Sort.putCells encStr 0 (Vc.sortS l).toArray cur).toList.take ((Vc.sortS l).length*1)=(Vc.sortS l).map encStr:=by
   apply ext_getElem?;intro i;rw[getElem?_take,getElem?_map]
   by_cases hi:i<(Vc.sortS l).length
   .rw[if_pos (by omega),Array.getElem?_toList]
    have:i<cur.size:=by omega
    simp[Sort.putCells,this,hi]
   .rw[if_neg (by omega),getElem?_eq_none (by omega)]
    rfl
  have hx:ObR K (Sort.grow (Sort.putRow encStr (Sort.ahead w nn) b 0 (Vc.sortS l).toArray) os).heap (G.set 0 g) g (.fx T 1 ((Vc.sortS l).map fun x=>[.s x])):=by
   refine⟨by simpa [hsl]using hlim,_,j6 (fun x hx=>hle x (by simpa [Vc.sortS]using hx)),.inr ⟨b,cap,_,fr,by rw[h1];simp[hsl],h2,hput,by rw[hpc];exact h4,by simpa [hsl]using h5,h6,by rw[hpc];exact h7,by simpa using htake⟩⟩
  have hfro:=fun(i:Nat) (hi:i<w.heap.size) (h:¬ own g i)=>hfr i hi fun e=>h (.inl e)
  have s1:=hS.modB hg (g1:=g) hsz hfro (fun i hi=>⟨by have:=(hS.gbo 0 g i hg hi).1;omega,.inl hi⟩) hx;rw[hg0]at s1;refine⟨.tuple #[],.tup [],_,K,G,rfl,⟨rfl,rfl⟩,?_,s1,?_,fun o ho=>?_⟩
  .have e1:=Ext.modB (K:=K) (w:=w) (kp:=fun _=>false) (w':=Sort.grow (Sort.putRow encStr (Sort.ahead w nn) b 0 (Vc.sortS l).toArray) os) hg rfl rfl ⟨rfl,fun _=>Nat.le_add_right _ _⟩ rfl hsz hfro (g1:=g) (fun i hi=>.inl hi)
   rw[hg0]at e1;exact { e1 with gsame:=fun _ _ _ h0=>h0 }
  .simp only[VR,VRs];exact⟨[],rfl,rfl⟩
  .cases o with
   |zero=>exact⟨_,rfl,rfl⟩
   |succ o=>simp[kinds,en]at ho

theorem cA{ρ':Ren}(L:SlLaysZ.n6 P ρ)(L10:SlLaysZ.n10 P ρ')(hc:BK P (ρ.f 6))(hsorts:∀m,AnyZ.SortsIn P ρ Fence.wide m)(e9:∀args w,(callFunc (ρ.f 9) args).run P w=.ok (.enter (ρ.f 9) args) w)(eg:∀args w,(callFunc (ρ'.f 10) args).run P w=.ok (.enter (ρ'.f 10) args) w)
  (ht:ρ'.t 26=ρ.t 26) {V:Type} (M:TypeId) (ag:Bool) (e:V->List Dt) (l:List (List UInt8×V)) (hmn:¬ Tabs.mono:=by exact fun h=>h) :
  Does P (ρ.f 6) [.fn (ρ'.f 10) [.ptr 0 0]] [.cells M [.mp 1],.mp ag (zj Dt.s e l)] (fun r Y=>r=.p (.l ((Vc.sortS (l.map (·.1))).map fun x=>[.s x]))/\Y=[.cells M [.mp 1],.mp ag (zj Dt.s e l)]):=by
 refine⟨hc,fun K G w vals hS hV=>?_⟩;simp only[VRs,VR]at hV;obtain⟨c0,r0,rfl,⟨cs,rfl,c1,r1,rfl,⟨g0,b0,hg0,hb0,rfl⟩,rfl⟩,rfl⟩:=hV;obtain⟨b0',cc,q1,q2,q3⟩:=hS.ob 0 g0 _ hg0 rfl;obtain rfl:b0=b0':=Option.some.inj (hb0.symm.trans q1);simp only[VRs,VR]at q3;obtain⟨c2,r2,rfl,⟨g1,b1,hg1,hb1,rfl⟩,rfl⟩:=q3;obtain⟨hlim,b1',mes,clock,p1,p2,p3,p4⟩:=hS.ob 1 g1 _ hg1 rfl;obtain rfl:b1=b1':=Option.some.inj (hb1.symm.trans p1);have hst:=P.underlying (ρ'.t 26);have hk:P.underlying (ρ'.t 26)=some .string:=L10.t26
 -- how the entries read
 let R:Value->Option (DataW Unit×List MemPlace):=fun _=>some (.lit (.bool true),[])
 have hent:∀(ms:List MapEntry) (ll:List (List UInt8×V)),MRs K w.heap ag ms (zj Dt.s e ll)->(∀x∈ms,∃y,WideElems.rd P (ρ'.t 26) R x=some y)/\(ms.map (WideElems.rg P (ρ'.t 26) R)).map (fun p=>Go.strOf p.1)=ll.map (·.1)/\(∀y∈ll,y.1.length<=eh):=by
  intro ms
  induction ms with
  |nil=>intro ll h;cases ll with
   |nil=>simp
   |cons y ll=>simp[zj,MRs]at h
  |cons x ms ih=>intro ll h;cases ll with
   |nil=>simp[zj,MRs]at h
   |cons y ll =>
    simp only[zj,map_cons,MRs]at h;obtain⟨h1,h2,h3⟩:=h;obtain⟨i1,i2,i3⟩:=ih ll h3;simp only[KR,DR]at h1
    have hrd:WideElems.rd P (ρ'.t 26) R x=some (.string y.1,.lit (.bool true)):=by
     have hl:y.1.length<=maxLen:=by have:=h1.2;simp only[eh,maxLen]at *;omega
     unfold WideElems.rd;rw[h1.1,WideMaps.keyOf_string_mk hk (by simpa [ByteArray.size]using hl)];simp[R]
    refine⟨fun z hz=>?_,?_,fun z hz=>?_⟩
    .rcases mem_cons.1 hz with rfl|hz
     .exact⟨_,hrd⟩
     .exact i1 z hz
    .simp only[map_cons,i2,WideElems.rg_of hrd]
     rfl
    .rcases mem_cons.1 hz with rfl|hz
     .exact h1.2
     .exact i3 z hz
 obtain⟨hrd,hkeys,hkl⟩:=hent mes.toList l p3
 have hlen:mes.size=l.length:=by have:=p3.length;simpa [zj]using this
 have hlim':mes.size<=eh:=by rw[hlen];simpa [zj]using hlim
 let D0:DataW Unit:=.map ((mes.toList.map (WideElems.rg P (ρ'.t 26) R)).foldr DataW.insert [])
 have hown:w.ownsMap P (ρ'.t 26) R b1 mes.size D0:=⟨mes,clock,p2,⟨by simp only[eh,maxLen]at *;omega,p4,hrd⟩,Nat.le_refl _,rfl⟩
 have hperm:(strKeys D0).Perm (l.map (·.1)):=by
  show(((mes.toList.map (WideElems.rg P (ρ'.t 26) R)).foldr DataW.insert []).map fun p=>Go.strOf p.1).Perm _
  rw[<-hkeys];exact(WideShapes.sorted_perm _).map _
 have hsz0:Maps.size D0=mes.size:=by
  show((mes.toList.map (WideElems.rg P (ρ'.t 26) R)).foldr DataW.insert []).length=_
  rw[(WideShapes.sorted_perm _).length_eq];simp
 have hb0lt:b0<w.heap.size:=(Array.getElem?_eq_some_iff.1 q2).1
 have hseq:SeqGives Fence.wide 2 P (ρ'.f 10) #[.pointer (some ⟨b0,0,none⟩)] encStr (fun ss=>ss.Perm (strKeys D0)) (Maps.size D0) w :=
  AnyZ.keys_gives (ρ:=ρ') L10 Fence.wide _ trivial rfl (by omega) b0 b1 mes.size D0 w hb0lt (by rw[cell_of_row w b0 0 _ M (0,0) q2];rfl) hown
 have hmain:=AnyZ.sorted_in L Fence.wide 5 trivial trivial trivial trivial rfl (by omega) (hsorts _) e9 (ρ'.f 10) #[.pointer (some ⟨b0,0,none⟩)] trivial eg _ (Maps.size D0) (by rw[hsz0];simp only[eh,maxLen]at *;omega) (by rw[hsz0];simp only[eh]at *;omega) w hseq;refine((callsIn_wide (n:=5)).1 hmain).mono ?_;rintro ee w' ⟨v,ss,rfl,hss,hrow,hnil,hB⟩;have hsort:ss.mergeSort (fun x y=>decide (x<=y))=Vc.sortS (l.map (·.1)):=mergeSort_of_perm (hss.trans hperm)
 have hsl:ss.length=(Vc.sortS (l.map (·.1))).length:=by rw[<-hsort];simp
 rw[hsort]at hrow
 have hstr:∀x∈Vc.sortS (l.map (·.1)),x.length<=eh:=fun x hx=>by
  have:x∈l.map (·.1):=by simpa [Vc.sortS]using hx
  obtain⟨y,hy,rfl⟩:=mem_map.1 this;exact hkl y hy
 have hfr:∀k,k<w.heap.size->w'.heap[k]?=w.heap[k]?:=hB.block;obtain⟨hrl,hrow⟩:=hrow
 -- the result's block is new
 let K':Nat->Prop:=fun b=>K b∨∃a n c,v=.slice (some a) n c/\a.block=b
 have hnew:∀b,K' b->K b∨(w.heap.size<=b/\b<w'.heap.size):=by
  intro b hb
  rcases hb with hb|⟨a,nn,c,hv,rfl⟩
  .exact .inl hb
  .rcases hrow with⟨hv',_⟩|⟨g,cap,cur,hv',h1,h2,_⟩
   .rw[hv]at hv';cases hv'
   .rw[hv]at hv';cases hv'
    exact .inr ⟨h1,(Array.getElem?_eq_some_iff.1 h2).1⟩
 have hMn:Mn K K' w.heap w'.heap:=⟨fun _ h=>.inl h,fun b hb=>hfr b (hS.kb b hb)⟩;refine⟨v,_,_,K',G,rfl,⟨rfl,rfl⟩,{ Ext.refl (en (kinds [.cells M [.mp 1],.mp ag (zj Dt.s e l)])) K G w with os:=hB.os,tape:=⟨hB.tape,fun m=>(hmn m).elim⟩,output:=hB.output,size:=hB.size,k:=fun _ h=>.inl h,knew:=fun b hb=>(hnew b hb).imp id fun h=>.inr h.1,frame:=fun b hb _=>hfr b hb },⟨hS.len,fun b hb=>?_,fun i g b hg hb=>?_,hS.ijo,fun i g y hg hy=>?_,hS.tb.mono hMn⟩,?_,F3 _⟩
 .rcases hnew b hb with h|h
  .exact Nat.lt_of_lt_of_le (hS.kb b h) hB.size
  .exact h.2
 .have h1:=hS.gbo i g b hg hb
  refine⟨Nat.lt_of_lt_of_le h1.1 hB.size,fun hk=>?_⟩
  rcases hnew b hk with h|h
  .exact h1.2 h
  .omega
 .exact ObR.keep hMn (Mg.refl (fun _=>true) G) (fun b hb=>hfr b (hS.gbo i g b hg hb).1) (Ob.all_true _) (hS.ob i g y hg hy)
 .simp only[VR,DR]
  rcases hrow with⟨hv,h0⟩|⟨g,cap,cur,hv,h1,h2,h3,h4,h5,h6⟩
  .refine .inl ⟨⟨none,hv⟩,?_⟩
   have:(Vc.sortS (l.map (·.1)))=[]:=length_eq_zero_iff.1 (by omega)
   rw[this];rfl
  .refine .inr ⟨g,0,cap,cur,_,(0,0),1,(Vc.sortS (l.map (·.1))).map encStr,by rw[hv,length_map,hsl],.inr ⟨_,_,_,hv,rfl⟩,h2,by rw[length_map,<-hsl];exact h3,?_,fun j x hj=>?_,j6 hstr⟩
   .rw[length_map,IE,length_map];omega
   .rw[<-h6,getElem?_take]at hj
    split at hj
    .rw[Nat.zero_add,<-Array.getElem?_toList];exact hj
    .cases hj
end
open Go.Proofs
theorem HA:∀a:List UInt8,eI a a=0
 |[]=>by simp[eI,Lib.compareBytes]
 |x::a=>by
  have:=HA a;simp only[eI,Lib.compareBytes]at this|-;rw[if_neg (by simp),if_neg (by simp)];exact this
theorem FN:∀a b:List UInt8,eI b a=- eI a b
 |[],[]=>by simp[eI,Lib.compareBytes]
 |[],_::_=>by simp[eI,Lib.compareBytes]
 |_::_,[]=>by simp[eI,Lib.compareBytes]
 |x::a,y::b=>by
  have:=FN a b;simp only[eI,Lib.compareBytes]at this|-
  by_cases h1:x<y
  .rw[if_pos h1,if_neg (UInt8.lt_asymm h1),if_pos h1];rfl
  .by_cases h2:y<x
   .rw[if_pos h2,if_neg h1,if_pos h2]
   .rw[if_neg h2,if_neg h1,if_neg h1,if_neg h2];exact this
theorem BC:∀{a b:List UInt8},eI a b=0->a=b
 |[],[],_=>rfl
 |[],_::_,h=>by simp[eI,Lib.compareBytes]at h
 |_::_,[],h=>by simp[eI,Lib.compareBytes]at h
 |x::a,y::b,h=>by
  simp only[eI,Lib.compareBytes]at h
  by_cases h1:x<y
  .rw[if_pos h1]at h;cases h
  .by_cases h2:y<x
   .rw[if_neg h1,if_pos h2]at h;cases h
   .rw[if_neg h1,if_neg h2]at h
    rw[BC (a:=a) (b:=b) h,UInt8.le_antisymm (UInt8.not_lt.1 h2) (UInt8.not_lt.1 h1)]
theorem HM:∀{a b c:List UInt8},eI a b<=0->eI b c<=0->eI a c<=0
 |[],_,[],_,_=>by simp[eI,Lib.compareBytes]
 |[],_,_::_,_,_=>by simp[eI,Lib.compareBytes]
 |_::_,[],_,h,_=>by simp[eI,Lib.compareBytes]at h
 |_::_,_::_,[],_,h=>by simp[eI,Lib.compareBytes]at h
 |x::a,y::b,z::c,h,h'=>by
  have ih:=@HM a b c;simp only[eI,Lib.compareBytes]at h h' ih|-
  by_cases h1:x<y
  .by_cases h2:y<z
   .rw[if_pos (UInt8.lt_trans h1 h2)];decide
   .by_cases h3:z<y
    .rw[if_neg h2,if_pos h3]at h';simp at h'
    .obtain rfl:=UInt8.le_antisymm (UInt8.not_lt.1 h3) (UInt8.not_lt.1 h2)
     rw[if_pos h1];decide
  .by_cases h2:y<x
   .rw[if_neg h1,if_pos h2]at h;simp at h
   .obtain rfl:=UInt8.le_antisymm (UInt8.not_lt.1 h2) (UInt8.not_lt.1 h1)
    rw[if_neg h1,if_neg h2]at h
    by_cases h3:x<z
    .rw[if_pos h3];decide
    .by_cases h4:z<x
     .rw[if_neg h3,if_pos h4]at h';simp at h'
     .rw[if_neg h3,if_neg h4]at h'|-
      exact ih h h'
def rk(k:Int):Int:=if k=5 then 2 else if k=6 then 3 else 1
theorem x7(k:Int):1<=rk k/\rk k<=3:=by
 unfold rk;split
 .omega
 .split <;> omega
def iR(a:List UInt8)(k:Int)(p:List UInt8)(a':List UInt8)(k':Int)(p':List UInt8):Int:=if eI a a'≠0 then eI a a' else if rk k≠rk k' then rk k-rk k' else eI p p'
theorem yD(a:List UInt8)(k:Int)(p:List UInt8)(a':List UInt8)(k':Int)(p':List UInt8):iR a' k' p' a k p=- iR a k p a' k' p':=by
 unfold iR;have h1:=FN a a';have h2:=FN p p'
 by_cases e:eI a a'=0
 .have e':eI a' a=0:=by omega
  rw[if_neg (Decidable.not_not.2 e),if_neg (Decidable.not_not.2 e')]
  by_cases e2:rk k=rk k'
  .rw[if_neg (Decidable.not_not.2 e2),if_neg (Decidable.not_not.2 e2.symm)];exact h2
  .rw[if_pos e2,if_pos (Ne.symm e2)];omega
 .have e':eI a' a≠0:=by omega
  rw[if_pos e,if_pos e'];exact h1
theorem jG{a:List UInt8}{k:Int}{p:List UInt8}{a':List UInt8}{k':Int}{p':List UInt8}(h:iR a k p a' k' p'=0):a=a'/\rk k=rk k'/\p=p':=by
 unfold iR at h
 by_cases e:eI a a'=0
 .rw[if_neg (by omega)]at h
  by_cases e2:rk k=rk k'
  .rw[if_neg (by omega)]at h;exact⟨BC e,e2,BC h⟩
  .rw[if_pos (by omega)]at h;omega
 .rw[if_pos (by omega)]at h;omega
theorem q9(a:List UInt8)(k:Int)(p:List UInt8):iR a k p a k p=0:=by
 unfold iR;rw[if_neg (by rw[HA];simp),if_neg (by simp),HA]
theorem H7{a:List UInt8}{k:Int}{p:List UInt8}{a':List UInt8}{k':Int}{p':List UInt8}{b:List UInt8}{j:Int}{q:List UInt8}(h:iR a k p a' k' p'<=0)(h':iR a' k' p' b j q<=0):iR a k p b j q<=0:=by
 unfold iR at *
 by_cases e:eI a a'=0
 .obtain rfl:=BC e
  rw[if_neg (by omega)]at h
  by_cases f:eI a b=0
  .rw[if_neg (by omega)]at h'|-
   by_cases e2:rk k=rk k'
   .rw[if_neg (by omega)]at h
    by_cases f2:rk k'=rk j
    .rw[if_neg (by omega)]at h'|-;exact HM h h'
    .rw[if_pos (by omega)]at h'|-;omega
   .rw[if_pos (by omega)]at h
    by_cases f2:rk k'=rk j
    .rw[if_pos (by omega)];omega
    .rw[if_pos (by omega)]at h'
     rw[if_pos (by omega)];omega
  .rw[if_pos (by omega)]at h'|-;exact h'
 .rw[if_pos (by omega)]at h
  by_cases f:eI a' b=0
  .obtain rfl:=BC f
   rw[if_pos (by omega)];exact h
  .rw[if_pos (by omega)]at h'
   have:=HM h h'
   by_cases g:eI a b=0
   .obtain rfl:=BC g
    have:=FN a a';omega
   .rw[if_pos (by omega)];exact this
section
variable {α:Type} (f:α->List UInt8) (g:α->Int) (h:α->List UInt8)
theorem sy:Go.Sort.SWO (ltOf fun x y=>iR (f x) (g x) (h x) (f y) (g y) (h y)) where
 irrefl x:=by simp[ltOf,q9]
 trans x y z h1 h2:=by
  simp only[ltOf,decide_eq_true_eq]at *;have h3:=H7 (Int.le_of_lt h1) (Int.le_of_lt h2)
  rcases Int.lt_or_eq_of_le h3 with h4|h4
  .exact h4
  .obtain⟨e1,e2,e3⟩:=jG h4
   have h5:=yD (f x) (g x) (h x) (f y) (g y) (h y)
   have:iR (f y) (g y) (h y) (f x) (g x) (h x)=iR (f y) (g y) (h y) (f z) (g z) (h z):=by unfold iR;rw[e1,e2,e3]
   omega
 ntrans x y z h1 h2:=by
  simp only[ltOf,decide_eq_false_iff_not,Int.not_lt]at *;have a1:=yD (f x) (g x) (h x) (f y) (g y) (h y);have a2:=yD (f y) (g y) (h y) (f z) (g z) (h z);have a3:=yD (f x) (g x) (h x) (f z) (g z) (h z);have:=H7 (a:=f z) (k:=g z) (p:=h z) (a':=f y) (k':=g y) (p':=h y) (b:=f x) (j:=g x) (q:=h x) (by omega) (by omega);omega
end
open Go.Proofs Go.Shelf Go.RowKit
def oU:Dt->Value
 |.b x=>.bool x
 |.i k n=>.int k n
 |.s x=>.string ⟨x.toArray⟩
 |_=>.bool false
def G6:Dt->Bool
 |.b _=>true
 |.i _ _=>true
 |.s _=>true
 |_=>false
def x8:Dt->Prop
 |.b _=>True
 |.i k n=>Fits k n
 |.s x=>x.length<=eh
 |_=>False
theorem FK{K:Nat->Prop}{h:Array Obj}:∀{d:Dt},x8 d->DR K h (oU d) d
 |.b _,_=>by simp only[DR,oU]
 |.i _ _,H=>by simp only[DR,oU];exact⟨trivial,H⟩
 |.s _,H=>by simp only[DR,oU];exact⟨trivial,H⟩
 |.l _,H|.a _,H|.r _,H=>H.elim
theorem FL{K:Nat->Prop}{h:Array Obj}{c:Value}:∀{d:Dt},G6 d=true->DR K h c d->c=oU d/\x8 d
 |.b _,_,H=>by simp only[DR]at H;exact⟨H,trivial⟩
 |.i _ _,_,H=>by simp only[DR]at H;exact H
 |.s _,_,H=>by simp only[DR]at H;exact H
 |.l _,H,_|.a _,H,_|.r _,H,_=>by cases H
theorem oJ{K:Nat->Prop}{h:Array Obj}:∀{r:List Dt},(∀d∈r,x8 d)->DRs K h (r.map oU) r
 |[],_=>by simp[DRs]
 |d::r,H=>by
  simp only[map_cons,DRs];exact⟨_,_,rfl,FK (H d (by simp)),oJ fun x hx=>H x (by simp[hx])⟩
theorem u1{K:Nat->Prop}{h:Array Obj}:∀{r:List Dt} {vs:List Value},(∀d∈r,G6 d=true)->DRs K h vs r->vs=r.map oU/\∀d∈r,x8 d
 |[],vs,_,H=>by simp only[DRs]at H;exact⟨H,fun d hd=>by simp at hd⟩
 |d::r,vs,hs,H=>by
  simp only[DRs]at H;obtain⟨v,vs',rfl,h1,h2⟩:=H;obtain⟨e1,o1⟩:=FL (hs d (by simp)) h1;obtain⟨e2,o2⟩:=u1 (fun x hx=>hs x (by simp[hx])) h2;refine⟨by rw[e1,e2];rfl,fun x hx=>?_⟩
  rcases mem_cons.1 hx with rfl|hx
  .exact o1
  .exact o2 x hx
section
variable {α:Type} (e:α->List Dt) (k:Nat)
theorem p8{K:Nat->Prop}{h:Array Obj}(hk:∀x,(e x).length=k):∀{l:List α},(∀x∈l,∀d∈e x,x8 d)->DRss K h k (l.map fun x=>(e x).map oU).flatten (l.map e)
 |[],_=>by simp[DRss]
 |x::l,H=>by
  simp only[map_cons,flatten_cons,DRss];exact⟨_,_,rfl,hk x,oJ (H x (by simp)),p8 hk fun y hy=>H y (by simp[hy])⟩
theorem p9{K:Nat->Prop}{h:Array Obj}(hs:∀x,∀d∈e x,G6 d=true):∀{l:List α} {vs:List Value},DRss K h k vs (l.map e)->vs=(l.map fun x=>(e x).map oU).flatten/\∀x∈l,∀d∈e x,x8 d
 |[],vs,H=>by simp only[map_nil,DRss]at H;exact⟨H,fun x hx=>by simp at hx⟩
 |x::l,vs,H=>by
  simp only[map_cons,DRss]at H;obtain⟨a,b,rfl,_,h1,h2⟩:=H;obtain⟨e1,o1⟩:=u1 (hs x) h1;obtain⟨e2,o2⟩:=p9 hs h2;refine⟨by rw[e1,e2];rfl,fun y hy=>?_⟩
  rcases mem_cons.1 hy with rfl|hy
  .exact o1
  .exact o2 y hy
end
theorem mB{β:Type}{k:Nat}(hk:0<k):∀(L:List (List β)) (t:Nat),(∀r∈L,r.length=k)->L.flatten[t]?=(L[t / k]?).bind fun r=>r[t % k]?
 |[],t,_=>by simp
 |r::L,t,h=>by
  have hr:=h r (by simp)
  have ih:=mB hk L (t-k) fun x hx=>h x (by simp[hx])
  rw[flatten_cons]
  by_cases ht:t<k
  .rw[getElem?_append_left (by omega),Nat.div_eq_of_lt ht,Nat.mod_eq_of_lt ht]
   simp
  .rw[getElem?_append_right (by omega),hr,ih]
   have e1:t / k=(t-k) / k+1:=by
    conv=>lhs;rw[show t=(t-k)+k by omega]
    exact Nat.add_div_right _ hk
   have e2:t % k=(t-k) % k:=by
    conv=>lhs;rw[show t=(t-k)+k by omega]
    exact Nat.add_mod_right _ _
   rw[e1,e2];simp
theorem JX{α:Type}[Inhabited α](enc:α->List Value)(k:Nat)(hk:∀x,(enc x).length=k)(d:Array α):(Go.Sort.flatK enc k d).toList=(d.toList.map enc).flatten:=by
 have hlen:((d.toList.map enc).flatten).length=d.size*k:=by
  have:∀l:List α,((l.map enc).flatten).length=l.length*k:=by
   intro l
   induction l with
   |nil=>simp
   |cons x l ih=>simp only[map_cons,flatten_cons,length_append,hk,ih,length_cons];rw[Nat.add_mul];omega
  simpa using this d.toList
 apply ext_getElem?;intro t
 by_cases ht:t<d.size*k
 .have k0:0<k:=by
   rcases Nat.eq_zero_or_pos k with h|h
   .subst h;omega
   .exact h
  have htk:t / k<d.size:=(Nat.div_lt_iff_lt_mul k0).2 ht
  have htm:t % k<(enc d[t / k]).length:=by rw[hk];exact Nat.mod_lt _ k0
  rw[mB k0 _ _ (fun r hr=>by obtain⟨x,_,rfl⟩:=mem_map.1 hr;exact hk x),getElem?_map];have h1:=Go.Sort.get_flatK enc k d t ht
  have h2:(Go.Sort.flatK enc k d).toList[t]?=some ((Go.Sort.flatK enc k d)[t]!):=by
   rw[Array.getElem?_toList]
   have:t<(Go.Sort.flatK enc k d).size:=by simpa using ht
   rw[Array.getElem?_eq_getElem this,getElem!_pos _ t this]
  rw[h2,h1]
  have h3:d.toList[t / k]?=some d[t / k]:=by rw[Array.getElem?_toList,Array.getElem?_eq_getElem htk]
  rw[h3,getElem!_pos d _ htk,getElem!_pos (enc d[t / k]) (t % k) htm];simp only[Option.map_some,Option.bind_some];rw[getElem?_eq_getElem htm]
 .rw[getElem?_eq_none (by simp;omega),getElem?_eq_none (by omega)]

theorem tM{W w':World}(hos:w'.os=W.os)(ht:w'.tape=W.tape)(ho:w'.output=W.output)(hs:W.heap.size<=w'.heap.size)(hb:∀b,b<W.heap.size->w'.heap[b]?=W.heap[b]?)(hd:W.drawn<=w'.drawn) :
  ∃q os',w'=Go.Sort.grow (W.drewN q) os':=by
 refine⟨w'.drawn-W.drawn,w'.heap.extract W.heap.size w'.heap.size,?_⟩
 have hh:w'.heap=W.heap++w'.heap.extract W.heap.size w'.heap.size:=by
  apply Array.ext_getElem?;intro i
  rcases Nat.lt_or_ge i W.heap.size with h|h
  .rw[Array.getElem?_append_left h,hb i h]
  .rw[Array.getElem?_append_right h]
   rcases Nat.lt_or_ge i w'.heap.size with h2|h2
   .rw[Array.getElem?_extract]
    simp only[Nat.min_self];rw[if_pos (by omega),show W.heap.size+(i-W.heap.size)=i by omega]
   .rw[Array.getElem?_eq_none h2,Array.getElem?_eq_none (by simp;omega)]
 obtain⟨hp,tp,dr,os,out⟩:=w';obtain⟨hp0,tp0,dr0,os0,out0⟩:=W;simp only at hos ht ho hh hd
 subst hos;subst ht;subst ho
 unfold Go.Sort.grow World.drewN;simp only[World.mk.injEq,true_and,and_true];exact⟨hh,by omega⟩
section
variable [Tabs] {P:Program} {ρ:Ren}
theorem dm{α:Type}(Q:Unit->Tabs)(hq:(Q ()).mono)(htb:∀b,(Q ()).tab b=none)(hif:∀b,(Q ()).ifc b=false)(L:SlLaysF0.n6 P ρ)(hc:BK P (ρ.f 6))(k:Nat)(aE:∀w,(isAgg (ρ.t 24)).run P w=.ok true w)(zE:∀w,(Go.sizeOf (ρ.t 24)).run P w=.ok k w)
  (e:α->List Dt) (hk:∀x,(e x).length=k) (hsc:∀x,∀d∈e x,G6 d=true) (cf:α->α->Int) (hO:Go.Sort.SWO (ltOf cf)) (g:Nat) (eg:∀args w,(callFunc g args).run P w=.ok (.enter g args) w)
  (hcmp:∀x y,@Does (Q ()) P g [.agg ((e x).map .p),.agg ((e y).map .p)] [] fun r X=>r=.p (.i .i64 (cf x y))/\X=[]) (T:TypeId) (l:List α) :
  Does P (ρ.f 6) [.buf 0,.fn g []] [.fx T k (l.map e)] fun r Y=>r=.tup []/\∃l':List α,l'.Perm l/\l'.Pairwise (fun x y=>¬ cf y x<0)/\Y=[.fx T k (l'.map e)]:=by
 refine⟨hc,fun K G w vals hS hV=>?_⟩;simp only[VRs,VR]at hV;obtain⟨c0,r0,rfl,⟨g0,hg,rfl,a0,n0,cap0,hsv0⟩,c1,r1,rfl,⟨cs,rfl,rfl⟩,rfl⟩:=hV;obtain⟨hlim,xs,hxs,hh⟩:=hS.ob 0 g0 _ hg rfl;obtain⟨hxe,hok⟩:=p9 e k hsc hxs;simp only[length_map]at hlim hh
 have hg0:G.set 0 g0=G:=by
  apply ext_getElem?;intro i
  by_cases e:i=0
  .subst e;rw[getElem?_set_self (List.getElem?_eq_some_iff.1 hg).1,hg]
  .rw[getElem?_set_ne (Ne.symm e)]
 -- nothing to sort
 have none_:l=[]->∀(p:Option Addr) (cap:Nat),g0.sv=.slice p 0 cap->Calls P (ρ.f 6) [g0.sv,Value.func (.func g) #[] ([]:List Value).toArray].toArray w fun e' w'=>∃c r X' K' G',e'=.returned c/\(r=Va.tup []/\∃l':List α,l'.Perm l/\l'.Pairwise (fun x y=>¬ cf y x<0)/\X'=[Ob.fx T k (l'.map e)])/\Ext (en (kinds [Ob.fx T k (l.map e)])) K G w K' G' w'/\St K' G' X' w'/\VR K' w'.heap G' c r/\fC (en (kinds [Ob.fx T k (l.map e)])) X':=by
  intro hl p cap hp;subst hl;rw[hp];refine(AnyF.slices_SortFunc_none L p cap _ w).mono ?_;rintro e' w' ⟨rfl,rfl⟩;refine⟨.tuple #[],.tup [],_,K,G,rfl,⟨rfl,[],.refl _,.nil,rfl⟩,Ext.refl _ _ _ _,hS,?_,F3 [Ob.fx T k (([]:List α).map e)]⟩
  simp only[VR,VRs];exact⟨[],rfl,rfl⟩
 rcases hh with⟨⟨a,h1⟩,h2,h3⟩|⟨b,cap,cur,fr,h1,h2,h3,h4,h5,h6,h7,h8⟩
 .exact none_ (by simpa using h2) a 0 h1
 .by_cases hl0:l=[]
  .exact none_ hl0 _ cap (by rw[h1,hl0];rfl)
  have hb:b<w.heap.size:=(Array.getElem?_eq_some_iff.1 h3).1
  -- the elements that are right
  let β:={ x:α // ∀d∈e x,x8 d }
  have:∃x0,x0∈l:=exists_mem_of_ne_nil l hl0;obtain⟨x0,hx0⟩:=this
  letI:Inhabited β:=⟨⟨x0,hok x0 hx0⟩⟩
  let enc:β->List Value:=fun x=>(e x.1).map oU
  let lb:List β:=l.attach.map fun x=>⟨x.1,hok x.1 x.2⟩
  have hlb:lb.map (·.1)=l:=by
   show(l.attach.map fun x=>(⟨x.1,hok x.1 x.2⟩:β)).map (·.1)=l
   rw[map_map];exact attach_map_subtype_val l
  have hlen:lb.length=l.length:=by show(l.attach.map _).length=_;simp
  have hke:∀x:β,(enc x).length=k:=fun x=>by show((e x.1).map oU).length=k;rw[length_map,hk]
  have hone:∀x:β,∀v∈enc x,v.oneCell'=true:=by
   intro x v hv;obtain⟨d,hd,rfl⟩:=mem_map.1 hv;have:=hsc x.1 d hd
   cases d <;> first|rfl|cases this
  have hrow:∀l2:List β,(l2.map enc).flatten=((l2.map (·.1)).map fun x=>(e x).map oU).flatten:=fun l2=>by rw[map_map];rfl
  have hflat:(Go.Sort.flatK enc k lb.toArray).toList=xs:=by
   rw[JX enc k hke,hxe]
   show(lb.map enc).flatten=_
   rw[hrow,hlb]
  have hsz:lb.toArray.size=l.length:=by simpa using hlen
  have hH:Go.Sort.HoldsK enc k w b 0 lb.toArray:=by
   intro j hj;rw[Go.Sort.size_flatK,hsz]at hj;have hjc:j<cur.size:=Nat.lt_of_lt_of_le hj (Nat.le_trans (Nat.mul_le_mul_right k h5) h7);refine⟨?_,?_⟩
   .rw[Nat.zero_add,cell_of_row w b j cur T fr h3]
    have e1:(cur.toList.take (l.length*k))[j]?=(Go.Sort.flatK enc k lb.toArray).toList[j]?:=by rw[h8,hflat]
    rw[getElem?_take,if_pos hj,Array.getElem?_toList,Array.getElem?_toList]at e1;rw[e1,Array.getElem?_eq_getElem (by rw[Go.Sort.size_flatK,hsz];exact hj),getElem!_pos _ j (by rw[Go.Sort.size_flatK,hsz];exact hj)];rfl
   .have:=h4.out j hjc
    obtain⟨f1,f2⟩:=fr;simp only[World.frozen?,h3,Nat.zero_add]at this|-
    simpa using this
  let cfb:β->β->Int:=fun x y=>cf x.1 y.1
  have hOb:Go.Sort.SWO (ltOf cfb):=⟨fun x=>hO.irrefl x.1,fun x y z=>hO.trans x.1 y.1 z.1,fun x y z=>hO.ntrans x.1 y.1 z.1⟩
  have hcl:CmpLays P g ([]:List Value).toArray enc k cfb b 0 lb.toArray.size w:=by
   intro m os dk hdk x y
   have hSt:@St (Q ()) (fun _=>False) [] [] (sortWorldK enc k w b 0 m dk os):=by
    refine @St.mk (Q ()) _ _ _ _ rfl (fun b h=>h.elim) (fun o g b h=>by simp at h) (fun o o' g g' b h=>by simp at h) (fun o g x h=>by simp at h) ⟨fun b k' l' h=>?_,fun b h=>?_⟩
    .rw[htb b]at h;cases h
    .rw[hif b]at h;cases h
   have hVR:∀z:β,VR (fun _=>False) (sortWorldK enc k w b 0 m dk os).heap [] (.agg (enc z).toArray) (.agg ((e z.1).map .p)):=by
    intro z;simp only[VR];refine⟨enc z,rfl,?_⟩;have:=oJ (K:=fun _=>False) (h:=(sortWorldK enc k w b 0 m dk os).heap) z.2
    show VRs _ _ _ ((e z.1).map oU) ((e z.1).map .p)
    revert this
    generalize e z.1=row;intro this
    induction row with
    |nil=>simp[VRs]
    |cons d row ih =>
     simp only[map_cons,DRs,VRs,VR]at this|-;obtain⟨v,vs,h1,h2,h3⟩:=this
     injection h1 with e1 e2
     subst e1;subst e2
     exact⟨_,_,rfl,h2,ih h3⟩
   have hv:VRs (fun _=>False) (sortWorldK enc k w b 0 m dk os).heap [] [.agg (enc x).toArray,.agg (enc y).toArray] [.agg ((e x.1).map .p),.agg ((e y.1).map .p)]:=by
    simp only[VRs];exact⟨_,_,rfl,hVR x,_,_,rfl,hVR y,rfl⟩
   refine((hcmp x.1 y.1).2 _ _ _ _ hSt hv).mono ?_;rintro e' w' ⟨c,r,X',K',G',rfl,⟨rfl,rfl⟩,hX,hS',hvr,_⟩;simp only[VR,DR]at hvr;obtain⟨rfl,_⟩:=hvr;obtain⟨x1,x2,x3,x4,_,_,_,_,_,x10⟩:=hX;refine⟨rfl,tM x1 x2.1 x3 x4 (fun b' hb'=>x10 b' hb' fun o g0 h=>by simp at h) (x2.2 hq)⟩
  rw[h1];have hmain:=AnyQ.slices_SortFunc L k aE zE enc hke hone cfb hOb g ([]:List Value).toArray b 0 cap lb.toArray w eg hcl hH hb (by rw[hsz];simp only[eh]at hlim;omega);rw[hsz]at hmain;refine hmain.mono ?_;rintro e' w' ⟨rfl,d',n,os,hp,hso,rfl⟩;obtain⟨hds,_,hpm⟩:=hp;rw[hsz]at hds
  have hperm:d'.toList.Perm lb:=by
   have h1:d'.extract 0 l.length=d':=by rw[<-hds];exact Array.extract_size
   have h2:lb.toArray.extract 0 l.length=lb.toArray:=by rw[<-hsz];exact Array.extract_size
   rw[h1,h2]at hpm
   simpa using hpm
  let l':List α:=d'.toList.map (·.1)
  have hl'l:l'.length=l.length:=by show(d'.toList.map _).length=_;simp[hds]
  have hok':∀x∈l',∀d∈e x,x8 d:=fun x hx=>by
   obtain⟨y,_,rfl⟩:=mem_map.1 hx;exact y.2
  have hpl:l'.Perm l:=by
   have:=hperm.map (·.1)
   rwa [hlb]at this
  have hpw:l'.Pairwise (fun x y=>¬ cf y x<0):=by
   rw[pairwise_map,pairwise_iff_getElem];intro i j hi hj hij;have:=hso i j (Nat.zero_le _) hij (by have h9:j<d'.toList.length:=hj;rw[Array.length_toList,hds]at h9;exact h9);rw[getElem!_pos d' i (by simpa using hi),getElem!_pos d' j (by simpa using hj)]at this
   simpa [ltOf]using this
  generalize hF:Go.Sort.flatK enc k d'=F
  have hFs:F.size=l.length*k:=by rw[<-hF,Go.Sort.size_flatK,hds]
  have hFl:F.toList=(l'.map fun x=>(e x).map oU).flatten:=by
   rw[<-hF,JX enc k hke,hrow]
  have hput0:Go.Sort.putRowK enc k (Go.Sort.ahead w n) b 0 d'=Go.Sort.putRow id (Go.Sort.ahead w n) b 0 F:=by unfold Go.Sort.putRowK;rw[hF]
  have hW:sortWorldK enc k w b 0 n d' os=Go.Sort.grow (Go.Sort.putRow id (Go.Sort.ahead w n) b 0 F) os:=by unfold sortWorldK;rw[hput0]
  rw[hW]
  have hget:∀i,i<w.heap.size->(Go.Sort.grow (Go.Sort.putRow id (Go.Sort.ahead w n) b 0 F) os).heap[i]?=if b=i then(w.heap[i]?).map (Go.Sort.onCells (Go.Sort.putCells id 0 F))else w.heap[i]?:=by
   intro i hi
   show(((w.heap.modify b (Go.Sort.onCells (Go.Sort.putCells id 0 F)))++os):Array Obj)[i]?=_
   rw[Array.getElem?_append_left (by simpa using hi),Array.getElem?_modify]
  have hput:(Go.Sort.grow (Go.Sort.putRow id (Go.Sort.ahead w n) b 0 F) os).heap[b]?=some (.cells (Go.Sort.putCells id 0 F cur) T fr):=by
   rw[hget b hb,if_pos rfl,h3];rfl
  have hfr:∀i,i<w.heap.size->g0.blk≠some i->(Go.Sort.grow (Go.Sort.putRow id (Go.Sort.ahead w n) b 0 F) os).heap[i]?=w.heap[i]?:=by
   intro i hi hib;rw[hget i hi,if_neg (fun e=>hib (by rw[h2,e]))]
  have hsz2:w.heap.size<=(Go.Sort.grow (Go.Sort.putRow id (Go.Sort.ahead w n) b 0 F) os).heap.size:=by
   show w.heap.size<=((w.heap.modify b _)++os:Array Obj).size
   simp
  have hpc:(Go.Sort.putCells id 0 F cur).size=cur.size:=by simp[Go.Sort.putCells]
  have hcap:l.length*k<=cur.size:=Nat.le_trans (Nat.mul_le_mul_right k h5) h7
  have htake:(Go.Sort.putCells id 0 F cur).toList.take (l'.length*k)=F.toList:=by
   apply ext_getElem?;intro i;rw[getElem?_take,hl'l]
   by_cases hi:i<l.length*k
   .rw[if_pos hi,Array.getElem?_toList,Array.getElem?_toList]
    have h9:i<cur.size:=by omega
    have h10:i<F.size:=by omega
    simp[Go.Sort.putCells,h9,h10]
   .rw[if_neg hi,getElem?_eq_none (by simp;omega)]
  have hx:ObR K (Go.Sort.grow (Go.Sort.putRow id (Go.Sort.ahead w n) b 0 F) os).heap (G.set 0 g0) g0 (.fx T k (l'.map e)):=by
   refine⟨by simpa [hl'l]using hlim,F.toList,by rw[hFl];exact p8 e k hk hok',.inr ⟨b,cap,_,fr,by rw[h1];simp[hl'l],h2,hput,by rw[hpc];exact h4,by simpa [hl'l]using h5,h6,by rw[hpc];exact h7,by rw[length_map];exact htake⟩⟩
  have hfro:=fun(i:Nat) (hi:i<w.heap.size) (h:¬ own g0 i)=>hfr i hi fun e=>h (.inl e)
  have s1:=hS.modB hg (g1:=g0) hsz2 hfro (fun i hi=>⟨by have:=(hS.gbo 0 g0 i hg hi).1;omega,.inl hi⟩) hx;rw[hg0]at s1;refine⟨.tuple #[],.tup [],_,K,G,rfl,⟨rfl,l',hpl,hpw,rfl⟩,?_,s1,?_,fun o ho=>?_⟩
  .have e1:=Ext.modB (K:=K) (w:=w) (kp:=fun _=>false) (w':=Go.Sort.grow (Go.Sort.putRow id (Go.Sort.ahead w n) b 0 F) os) hg rfl rfl ⟨rfl,fun _=>Nat.le_add_right _ _⟩ rfl hsz2 hfro (g1:=g0) (fun i hi=>.inl hi)
   rw[hg0]at e1;exact { e1 with gsame:=fun _ _ _ h0=>h0 }
  .simp only[VR,VRs];exact⟨[],rfl,rfl⟩
  .cases o with
   |zero=>exact⟨_,rfl,rfl⟩
   |succ o=>simp[kinds,en]at ho
end
def iW:List (Dt×List Dt)->Dt->Nat
 |[],_=>0
 |p::es,d=>bif fi p.1 d then 0 else iW es d+1
def mE(es:List (Dt×List Dt))(d:Dt)(z:List Dt):List (Dt×List Dt):=fq es d (nB es d z)
def bE(es:List (Dt×List Dt))(bs:List Nat)(cl:Nat)(d:Dt):List Nat:=bif (gl es d).isSome then bs else bs++[cl]
def cE(es:List (Dt×List Dt))(cl:Nat)(d:Dt):Nat:=bif (gl es d).isSome then cl else cl+1
def qv(es:List (Dt×List Dt))(bs:List Nat)(cl:Nat)(d:Dt):Nat:=(bE es bs cl d).getD (iW es d) 0
theorem xF(d:Dt)(r:List Dt):∀es:List (Dt×List Dt),(gl es d=none/\fq es d r=es++[(d,r)]/\iW es d=es.length)∨((gl es d).isSome=true/\fq es d r=es.set (iW es d) (d,r)/\iW es d<es.length)
 |[]=>.inl ⟨rfl,rfl,rfl⟩
 |p::es=>by
  cases h:fi p.1 d with
  |true=>exact .inr ⟨by simp[gl,h],by simp[fq,iW,h],by simp[iW,h]⟩
  |false =>
   rcases xF d r es with⟨h1,h2,h3⟩|⟨h1,h2,h3⟩
   .exact .inl ⟨by simp[gl,h,h1],by simp[fq,h,h2],by simp[iW,h,h3]⟩
   .exact .inr ⟨by simp[gl,h,h1],by simp[fq,iW,h,h2],by simp[iW,h,h3]⟩
theorem tj(d:Dt)(r r':List Dt)(es:List (Dt×List Dt)):(fq es d r).length=(fq es d r').length:=by
 rcases xF d r es with⟨h1,h2,_⟩|⟨h1,h2,_⟩ <;> rcases xF d r' es with⟨g1,g2,_⟩|⟨g1,g2,_⟩
 .simp[h2,g2]
 .rw[h1]at g1;cases g1
 .rw[g1]at h1;cases h1
 .simp[h2,g2]
theorem EL(es:List (Dt×List Dt))(d:Dt)(z row:List Dt):∃r,(mE es d z)[iW es d]?=some (d,r)/\fq es d row=(mE es d z).set (iW es d) (d,row):=by
 unfold mE
 rcases xF d (nB es d z) es with⟨h1,h2,h3⟩|⟨h1,h2,h3⟩ <;> rcases xF d row es with⟨g1,g2,g3⟩|⟨g1,g2,g3⟩
 .exact⟨nB es d z,by rw[h2,h3];simp,by rw[g2,h2,h3];simp⟩
 .rw[h1]at g1;cases g1
 .rw[g1]at h1;cases h1
 .exact⟨_,by rw[h2,getElem?_set_self h3],by rw[g2,h2,set_set]⟩
section
variable {P:Program} {kl:List Bool} {n:Nat} {B:Bs} {Q:Qt} {E:dY} {H:List Ob}
theorem dw{c:Code}(i:Nat){ag:Bool}{es:List (Dt×List Dt)}(hi:Is (ed H i) (.mp ag es))(hc:∀(bs:List Nat) (cl:Nat),Wp P kl n B c Q E (H.set i (.mpb ag es bs cl))):Wp P kl n B c Q E H:=by
 unfold Is at *;intro hB a w hR;obtain⟨K,G,r1,hS,r3,r4,r5,r6⟩:=hR;have hiH:=zn hi (by simp);obtain⟨gi,hgi,hob⟩:=hS.ghost hiH;obtain⟨hlim,b,mes,cl,e1,e2,e3,e4⟩:=hob;have s1:=hS.reob hgi e1 (x:=.mpb ag es (mes.toList.map (·.born)) cl) ⟨hlim,b,mes,e1,e2,e3,e4,rfl⟩;refine hc _ cl hB a w ⟨K,G,r1,s1,r3,r4,r5,fun y hy=>?_⟩;obtain⟨z,hz,hkz⟩:=r6 y hy
 by_cases e:y=i
 .subst e
  exact⟨_,getElem?_set_self (List.getElem?_eq_some_iff.1 hz).1,rfl⟩
 .exact⟨z,by rw[getElem?_set_ne (Ne.symm e)];exact hz,hkz⟩
end
section
variable {C:Cx} {E:dY} {H:List Ob} {a:Act} {w:World}
theorem HZ(hR:Rel C E H a w){K:Nat->Prop}{G:List Gh}(hX:Ext C.kp C.K0 C.G0 C.w0 K G w)(hS:St K G H w)(hE:ig K w.heap G a E)(hk:fC C.kp H){oo b:Nat}{g:Gh}(hg:G[oo]?=some g)(hgb:g.blk=some b)
  {mes mes':Array MapEntry} {clock clock':Nat} {ag:Bool} {es':List (Dt×List Dt)} {bs':List Nat} (hb:w.heap[b]?=some (.map mes clock)) (hlim:es'.length<=eh) (hm:MRs K w.heap ag mes'.toList es') (hst:MapKept.Stamped mes' clock') (hbo:mes'.toList.map (·.born)=bs')
  {c:Value} {v:Va} (hv:∀h G,VR K h G c v):RelV C E (H.set oo (.mpb ag es' bs' clock')) c v a { w with heap:=w.heap.setIfInBounds b (.map mes' clock') }:=by
 have hlt:b<w.heap.size:=(Array.getElem?_eq_some_iff.1 hb).1;have hfr:=IH w b (.map mes' clock');have hMn:Mn K K w.heap (w.heap.setIfInBounds b (.map mes' clock')):=⟨fun _ h=>h,fun i hi=>hfr i fun e=>(hS.gb oo g b hg hgb).2 (e ▸ hi)⟩;obtain⟨_,_,_,_,_,hd,hn,_⟩:=hR;refine⟨K,G,hX.trans (Ext.modA C.kp hg hgb rfl ⟨rfl,fun _=>Nat.le_refl _⟩ rfl (by simp) hfr),hS.modA hg hgb (by simp) hfr ?_,fun m=>VR.grow hMn (fun _ _ h=>h) _ _ (hE m),hd,hn,fun i hi=>?_,hv _ _⟩
 .exact⟨hlim,b,mes',hgb,by simp[hlt],hm.mono hMn,hst,hbo⟩
 .by_cases e:i=oo
  .subst e
   have:i<H.length:=by rw[<-hS.len];exact(List.getElem?_eq_some_iff.1 hg).1
   exact⟨_,getElem?_set_self this,rfl⟩
  .obtain⟨vs',h,hkt⟩:=hk i hi
   exact⟨vs',by rw[getElem?_set_ne (Ne.symm e)];exact h,hkt⟩
theorem tY(hR:Rel C E H a w)(o:Oper){t:TypeId}{m k:Operand}(ho:o.op=.mapEntry t m k)(hm:opOk true E m)(hk:opOk true E k){i:Nat}{ag:Bool}{es:List (Dt×List Dt)}{bs:List Nat}{cl:Nat}{d:Dt}{kt et:TypeId}{te:Ti}{row:List Dt}
  (hx:opnd E m=.mp i) (hkv:mi (opnd E k)=some d) (ht:z7 C.P t=.map kt et) (hi:ed H i=.mpb ag es bs cl) (hte:ej C.P et=some te)
  (h1:ik (i6 C.P kt) es) (h2:iX (i6 C.P kt) d) (h3:oM C.P et=ag) (h4:gx te.zero) (h5:ag=false->te.zero.length=1) (h6:(fq es d row).length<=eh) :
  fW C o a w (.tup [.top,.raw (goInt (qv es bs cl d))]) E (H.set i (.mpb ag (mE es d (zr te.zero)) (bE es bs cl d) (cE es cl d))):=by
 have hR0:=hR;obtain⟨K,G,hX,hS,hE,hd,hn,hkp⟩:=hR;have hvm:=zw hE rfl m hm;have hvk:=zw hE rfl k hk;rw[hx]at hvm;have hvk:=CL hkv hvk;simp only[VR]at hvm;obtain⟨g,b,hg,hgb,ham⟩:=hvm;obtain⟨hlim,b',mes,hb',hbm,hmr,hst,hborn⟩:=hS.ob i g _ hg (zn hi (by simp))
 obtain rfl:b'=b:=by rw[hgb]at hb';exact(Option.some.inj hb').symm
 obtain⟨ti,ht',hk'⟩:=zH ht (by simp);have hu:=yo ht' hk';obtain⟨hck,hkeep,hfind⟩:=CV (P:=C.P) (w:=w) h2 hvk
 have h6':(mE es d (zr te.zero)).length<=eh:=by unfold mE;rw[tj d _ row];exact h6
 have hvt:∀(x:Value) (h:Array Obj) (G':List Gh),VR K h G' (.tuple #[x,goInt (qv es bs cl d)]) (.tup [.top,.raw (goInt (qv es bs cl d))]):=fun x h G'=>by
  simp only[VR,VRs];exact⟨[x,goInt (qv es bs cl d)],rfl,_,_,rfl,trivial,_,_,rfl,rfl,rfl⟩
 have hlen:es.length=bs.length:=by rw[<-hborn,length_map];exact hmr.length.symm
 have run:∀{v:Value} {w':World},(Instr.mapEntry t (a.eval m) (a.eval k)).run C.P w=.ok v w'->(execOp a.eval o).run C.P w=.ok (.value v) w':=by
  intro v w' hr;obtain⟨dst,op,ty,pos,af,gd⟩:=o;cases ho;exact qg hr
 rcases hfind hmr h1 with⟨a1,a2,a3,_,a9⟩|⟨j,e,row',a1,a2,a3,a4,a5,a6,a7⟩
 .obtain⟨i0,z,hi1,hi2,hi3,hz2⟩:=FY hte
  have hz1:(zeroValue et).run C.P w=.ok z w:=by simp[zeroValue,typeInfo,hi1,hi3]
  have hzf:oM C.P et=(match z with|.agg _=>true|_=>false):=by simp only[oM,hi1,Option.bind_some,hi3];cases z <;> rfl
  have hval:iz K w.heap ag z (zr te.zero):=by
   have hzr:=i7 (K:=K) (h:=w.heap) h4;rw[<-hz2]at hzr
   cases ag with
   |true =>
    rw[h3]at hzf
    cases z <;> first|cases hzf|skip
    rename_i cs
    exact⟨cs.toList,by simp,by rw[<-hz2];exact hzr⟩
   |false =>
    rw[h3]at hzf
    have hzs:z.cells.toList=[z]:=by cases z <;> first|rfl|cases hzf
    rw[hzs]at hzr;have hrl:=hzr.length;rw[<-hz2,hzs]
    match hzz:zr [z],hrl with
    |[d0],_ =>
     rw[hzz]at hzr;simp only[DRs]at hzr;obtain⟨_,_,h6,h7,_⟩:=hzr;cases h6;exact⟨d0,rfl,h7⟩
  have hst':qv es bs cl d=cl:=by
   have:=(xF d [] es).resolve_right fun h=>by rw[a2]at h;cases h.1
   simp[qv,bE,a2,this.2.2,hlen]
  refine⟨.tuple #[z,goInt cl],_,.inl (run ?_),HZ hR0 hX hS hE hkp (mes':=mes.push { key:=a.eval k,val:=z,born:=cl }) hg hgb hbm h6' ?_ (by simpa [cE,a2]using MapKept.stamped_push hst a9) (by simp[bE,a2,hborn]) ?_⟩
  .rw[ham]
   simp[Instr.mapEntry,run_underlying hu,MapKept.run_getObj_map hbm,hck,a1,hz1,MapKept.run_setObj_map _ hbm,Result.andThen,cE,a2]
  .unfold mE
   rw[a3,show nB es d (zr te.zero)=zr te.zero by simp[nB,a2]]
   simpa using MRs.append (e:={ key:=a.eval k,val:=z,born:=cl }) (p:=(d,zr te.zero)) hvk hval hmr
  .rw[hst']at hvt|-;exact hvt z
 .have hj:mes[j]?=some e:=by simpa using a2
  have hjl:=(Array.getElem?_eq_some_iff.1 hj).1
  have hsome:(gl es d).isSome=true:=by simp[a4]
  have hix:iW es d=j:=by
   rcases xF d [] es with⟨h,_⟩|⟨_,h,hl⟩
   .rw[h]at hsome;cases hsome
   .have e1:=a6 []
    have e2:=a6 [.b true]
    rcases xF d [.b true] es with⟨h',_⟩|⟨_,h',_⟩
    .rw[h']at hsome;cases hsome
    .have e3:(es.set (iW es d) (d,[]))[iW es d]?=(es.set j (d,[]))[iW es d]?:=by rw[<-h,e1]
     have e4:(es.set (iW es d) (d,[.b true]))[iW es d]?=(es.set j (d,[.b true]))[iW es d]?:=by rw[<-h',e2]
     by_cases hne:j=iW es d
     .exact hne.symm
     .rw[getElem?_set_self hl,getElem?_set_ne hne]at e3 e4
      rw[<-e3]at e4;simp at e4
  have hborn_j:bs[j]?=some e.born:=by rw[<-hborn,getElem?_map,a2];rfl
  have hst':qv es bs cl d=e.born:=by simp[qv,bE,a4,hix,getD_eq_getElem?_getD,hborn_j]
  have hml:(mes.modify j fun e=>{ e with key:=a.eval k }).toList=mes.toList.set j { e with key:=a.eval k }:=by
   apply ext_getElem?;intro q;rw[Array.getElem?_toList,Array.getElem?_modify]
   by_cases hij:j=q
   .subst hij
    rw[if_pos rfl,hj,getElem?_set_self (by simpa using hjl)];rfl
   .rw[if_neg hij,getElem?_set_ne hij,Array.getElem?_toList]
  refine⟨.tuple #[e.val,goInt e.born],_,.inl (run ?_),HZ hR0 hX hS hE hkp (mes':=mes.modify j fun e=>{ e with key:=a.eval k }) hg hgb hbm h6' ?_ (by simpa [cE,a4]using MapKept.stamped_modify hst j (fun e=>{ e with key:=a.eval k }) (fun _ _=>rfl) (fun e' _ he'=>by rw[hj]at he';cases he';exact a3.symm)) ?_ ?_⟩
  .rw[ham]
   simp[Instr.mapEntry,run_underlying hu,MapKept.run_getObj_map hbm,hck,a1,hj,a3,hkeep,MapKept.run_setObj_map _ hbm,Result.andThen,cE,a4]
  .unfold mE
   rw[a6,hml,show nB es d (zr te.zero)=row' by simp[nB,a4]];exact hmr.set (e:={ e with key:=a.eval k }) (p:=(d,row')) hvk a5 j
  .rw[hml,map_set,hborn]
   simp only[bE,a4,Option.isSome_some,cond_true]
   exact ext_getElem? fun q=>by
    by_cases hq:j=q
    .subst hq;rw[getElem?_set_self (List.getElem?_eq_some_iff.1 hborn_j).1,hborn_j]
    .rw[getElem?_set_ne hq]
  .rw[hst']at hvt|-;exact hvt e.val
theorem LK(hR:Rel C E H a w)(o:Oper){t:TypeId}{m s x:Operand}(ho:o.op=.entryStore t m s x)(hm:opOk true E m)(hs:opOk true E s)(hx0:opOk true E x){i:Nat}{ag:Bool}{es:List (Dt×List Dt)}{bs:List Nat}{cl:Nat}{d:Dt}{z row:List Dt}
  (hx:opnd E m=.mp i) (hsv:opnd E s=.raw (goInt (qv es bs cl d))) (hi:ed H i=.mpb ag (mE es d z) (bE es bs cl d) (cE es cl d)) (hrow:eK (gL (opnd E x))=some row)
  (h3:(opnd E x).isCell=true) (h4:Bj (opnd E x)=ag) (h5:ag=false->row.length=1):fW C o a w .top E (H.set i (.mpb ag (fq es d row) (bE es bs cl d) (cE es cl d))):=by
 have hR0:=hR;obtain⟨K,G,hX,hS,hE,hd,hn,hkp⟩:=hR;have hvm:=zw hE rfl m hm;have hvs:=zw hE rfl s hs;have hvx:=zw hE rfl x hx0;rw[hx]at hvm;rw[hsv]at hvs;simp only[VR]at hvm hvs;obtain⟨g,b,hg,hgb,ham⟩:=hvm;obtain⟨hlim,b',mes,hb',hbm,hmr,hst,hborn⟩:=hS.ob i g _ hg (zn hi (by simp))
 obtain rfl:b'=b:=by rw[hgb]at hb';exact(Option.some.inj hb').symm
 have hcv:=lj (vO hvx h3) hrow;have hval:=p6 hvx h3 h4 hcv h5;obtain⟨r,hat,hset⟩:=EL es d z row;generalize hj:iW es d=j at hat hset
 have hjl:j<mes.toList.length:=by rw[hmr.length];exact(List.getElem?_eq_some_iff.1 hat).1
 obtain⟨e,he⟩:∃e,mes.toList[j]?=some e:=⟨_,getElem?_eq_getElem hjl⟩
 have hej:mes[j]?=some e:=by simpa using he
 have hstj:qv es bs cl d=e.born:=by
  unfold qv;rw[hj,<-hborn,getD_eq_getElem?_getD,getElem?_map,he];rfl
 have hnd:(mes.toList.map (·.born)).Nodup:=(MapKept.stamped_iff mes (cE es cl d)).1 hst |>.2.1
 have hfi:mes.findIdx? (fun q=>(q.born:Int) == (e.born:Int))=some j:=by
  rw[Array.findIdx?_eq_some_iff_getElem];refine⟨by simpa using hjl,?_,fun q hq=>?_⟩
  .have:mes[j]'(by simpa using hjl)=e:=by have:=(Array.getElem?_eq_some_iff.1 hej).2;exact this
   simp[this]
  .have hql:q<mes.toList.length:=by omega
   intro hc
   have h1:(mes[q]'(by simpa using hql)).born=e.born:=by simp at hc;omega
   have h2:=pairwise_iff_getElem.1 hnd q j (by simpa using hql) (by simpa using hjl) hq;apply h2;have h3:mes.toList[j]=e:=Option.some.inj ((getElem?_eq_getElem hjl).symm.trans he);rw[getElem_map,getElem_map,h3];exact h1
 have hml:(mes.modify j fun q=>{ q with val:=a.eval x }).toList=mes.toList.set j { e with val:=a.eval x }:=by
  apply ext_getElem?;intro q;rw[Array.getElem?_toList,Array.getElem?_modify]
  by_cases hij:j=q
  .subst hij
   rw[if_pos rfl,hej,getElem?_set_self hjl];rfl
  .rw[if_neg hij,getElem?_set_ne hij,Array.getElem?_toList]
 have hke:KR K w.heap e.key d:=by
  obtain⟨e',he',h,_⟩:=hmr.get hat
  rw[he]at he';cases he'
  exact h
 refine⟨undef,_,.inr ⟨?_,rfl⟩,HZ hR0 hX hS hE hkp (mes':=mes.modify j fun q=>{ q with val:=a.eval x }) hg hgb hbm (by rw[hset,length_set];exact hlim) ?_ (MapKept.stamped_modify hst j _ (fun _ _=>rfl) (fun _ _ _=>rfl)) ?_ fun _ _=>by simp only[VR]⟩
 .obtain⟨dst,op,ty,pos,af,gd⟩:=o
  cases ho;refine CN ?_;rw[ham,hvs,hstj];simp[Instr.entryStore,MapKept.run_getObj_map hbm,hfi,MapKept.run_setObj_map _ hbm,Result.andThen,goInt,asInt,asIntOf]
 .rw[hml,hset]
  exact hmr.set (e:={ e with val:=a.eval x }) (p:=(d,row)) hke hval j
 .rw[hml,map_set,hborn]
  exact ext_getElem? fun q=>by
   by_cases hq:j=q
   .subst hq
    have:(bE es bs cl d)[j]?=some e.born:=by rw[<-hborn,getElem?_map,he];rfl
    rw[getElem?_set_self (List.getElem?_eq_some_iff.1 this).1,this]
   .rw[getElem?_set_ne hq]
end
section
variable {P:Program} {kl:List Bool} {n:Nat} {B:Bs} {ops:List Oper} {K:dY->List Ob->Prop} {l:Plan} {obs:List En} {E:dY} {H:List Ob}
theorem di{k:Nat}{L:List Nat}{o:Oper}{v:Va}{H':List Ob}(hk:Is ops[k]? (some o))(hg:Is o.guard none)(hd:fz n o.dst)(hs:∀E',Agree o.op.operands.toList E E'->∀a w,Rel (cx P kl n B) E' H a w->fW (cx P kl n B) o a w v E' H')(hag:nF L none H' obs)
  (cont:gy P kl n B ops.toArray K (fw P kl n ops l ⟨obs,eB E o.dst v,H',True⟩)):Br P kl n B ops.toArray k L l obs E H K:=by
 unfold Is at *;have h':=Dr.run cont;simp only at h';rw[<-g6 hk]at h';refine Br.eff (po:=none) (fun _=>?_) hag h';intro E' hE' a w Q K' hR hK;have hop:=rQ (fU hk) hE';rw[g6 hk]at hK;unfold wpOp;simp only[fU hk];rw[if_pos (by simp[Region.wanted,hg])];refine .inl ?_;obtain⟨c,w',hr,hR'⟩:=hs E' hop a w hR;unfold Oper.wp
 rcases hr with hr|⟨hr,rfl⟩
 .rw[hr];exact hK _ _ (hR'.put o.dst (zM hd))
 .rw[hr];exact hK _ _ (hR'.put o.dst (zM hd))
theorem Br.entry{k:Nat}{L:List Nat}{o:Oper}{t:TypeId}{m key:Operand}{i:Nat}{ag:Bool}{es:List (Dt×List Dt)}{bs:List Nat}{cl:Nat}{d:Dt}{kt et:TypeId}{te:Ti}(row:List Dt)(hk:Is ops[k]? (some o))(hg:Is o.guard none)(ho:Is o.op (.mapEntry t m key))(hd:fz n o.dst)(hm:opOk true E m/\opOk true E key)
  (hx:Is (opnd E m) (.mp i)) (hkv:Is (mi (opnd E key)) (some d)) (ht:Is (z7 P t) (.map kt et)) (hi:Is (ed H i) (.mpb ag es bs cl)) (hte:Is (ej P et) (some te))
  (hs:ik (i6 P kt) es/\iX (i6 P kt) d/\oM P et=ag/\gx te.zero/\(ag=false->te.zero.length=1)/\(fq es d row).length<=eh)
  (hag:nF L none (H.set i (.mpb ag (mE es d (zr te.zero)) (bE es bs cl d) (cE es cl d))) obs)
  (cont:gy P kl n B ops.toArray K (fw P kl n ops l ⟨obs,eB E o.dst (.tup [.top,.raw (goInt (qv es bs cl d))]),H.set i (.mpb ag (mE es d (zr te.zero)) (bE es bs cl d) (cE es cl d)),True⟩)):Br P kl n B ops.toArray k L l obs E H K:=by
 obtain⟨h1,h2,h3,h4,h5,h6⟩:=hs;unfold Is at ho hx hkv ht hi hte;refine di hk hg hd (fun E' hE' a w hR=>?_) hag cont;have e1:eu E m=eu E' m:=hE' m (by simp[ho,Op.operands]);have e2:eu E key=eu E' key:=hE' key (by simp[ho,Op.operands]);have q1:=hm.1;have q2:=hm.2;rw[Agree.opOk e1]at q1;rw[Agree.opOk e2]at q2;rw[Agree.opnd e1]at hx;rw[Agree.opnd e2]at hkv;exact tY (row:=row) hR o ho q1 q2 hx hkv ht hi hte h1 h2 h3 h4 h5 h6
theorem Br.entryStore{k:Nat}{L:List Nat}{o:Oper}{t:TypeId}{m s x:Operand}{i:Nat}{ag:Bool}{es:List (Dt×List Dt)}{bs:List Nat}{cl:Nat}{d:Dt}{z row:List Dt}(hk:Is ops[k]? (some o))(hg:Is o.guard none)(ho:Is o.op (.entryStore t m s x))(hd:fz n o.dst)(hm:opOk true E m/\opOk true E s/\opOk true E x)
  (hx:Is (opnd E m) (.mp i)) (hsv:Is (opnd E s) (.raw (goInt (qv es bs cl d)))) (hi:Is (ed H i) (.mpb ag (mE es d z) (bE es bs cl d) (cE es cl d))) (hrow:Is (eK (gL (opnd E x))) (some row))
  (hs:(opnd E x).isCell=true/\Bj (opnd E x)=ag/\(ag=false->row.length=1))
  (hag:nF L none (H.set i (.mpb ag (fq es d row) (bE es bs cl d) (cE es cl d))) obs)
  (cont:gy P kl n B ops.toArray K (fw P kl n ops l ⟨obs,eB E o.dst .top,H.set i (.mpb ag (fq es d row) (bE es bs cl d) (cE es cl d)),True⟩)):Br P kl n B ops.toArray k L l obs E H K:=by
 obtain⟨h1,h2,h3⟩:=hs;unfold Is at ho hx hsv hi hrow;refine di hk hg hd (fun E' hE' a w hR=>?_) hag cont;have e1:eu E m=eu E' m:=hE' m (by simp[ho,Op.operands]);have e2:eu E s=eu E' s:=hE' s (by simp[ho,Op.operands]);have e3:eu E x=eu E' x:=hE' x (by simp[ho,Op.operands]);have q1:=hm.1;have q2:=hm.2.1;have q3:=hm.2.2;rw[Agree.opOk e1]at q1;rw[Agree.opOk e2]at q2;rw[Agree.opOk e3]at q3;rw[Agree.opnd e1]at hx;rw[Agree.opnd e2]at hsv;rw[Agree.opnd e3]at hrow h1 h2;exact LK hR o ho q1 q2 q3 hx hsv hi hrow h1 h2 h3
end
section
variable {P:Program} {kl:List Bool} {n:Nat} {B:Bs} {Q:Qt} {E:dY} {H:List Ob}
theorem Rel.closeM{C:Cx}{a:Act}{w:World}{i:Nat}{ag:Bool}{es:List (Dt×List Dt)}{bs:List Nat}{cl:Nat}(hi:ed H i=.mpb ag es bs cl)(hR:Rel C E H a w):Rel C E (H.set i (.mp ag es)) a w:=by
 obtain⟨K,G,r1,hS,r3,r4,r5,r6⟩:=hR;have hiH:=zn hi (by simp);obtain⟨gi,hgi,hob⟩:=hS.ghost hiH;obtain⟨hlim,b,mes,e1,e2,e3,e4,e5⟩:=hob;have s1:=hS.reob hgi e1 (x:=.mp ag es) ⟨hlim,b,mes,cl,e1,e2,e3,e4⟩;refine⟨K,G,r1,s1,r3,r4,r5,fun y hy=>?_⟩;obtain⟨z,hz,hkz⟩:=r6 y hy
 by_cases e:y=i
 .subst e
  exact⟨_,getElem?_set_self (List.getElem?_eq_some_iff.1 hz).1,rfl⟩
 .exact⟨z,by rw[getElem?_set_ne (Ne.symm e)];exact hz,hkz⟩
theorem Wp.closeM{c:Code}(i:Nat){ag:Bool}{es:List (Dt×List Dt)}{bs:List Nat}{cl:Nat}(hi:Is (ed H i) (.mpb ag es bs cl))(hc:Wp P kl n B c Q E (H.set i (.mp ag es))):Wp P kl n B c Q E H:=fun hB a w hR=>hc hB a w (Rel.closeM hi hR)
theorem dv{id:Nat}{os:List Oper}(plan:Plan)(hm:P.follows .mixedOrders=true)(hl:plan.length=os.length)(hp:g4 os.toArray plan [] (Array.replicate os.length false)=true)
  (h:∀K:dY->List Ob->Prop,(∀E H,Q .normal E H->K E H)->(∀(E:dY) (H:List Ob) (i:Nat) (ag:Bool) (es:List (Dt×List Dt)) (bs:List Nat) (cl:Nat),Is (ed H i) (.mpb ag es bs cl)->K E (H.set i (.mp ag es))->K E H)->gy P kl n B os.toArray K (fw P kl n os plan ⟨[],E,H,True⟩)):Wp P kl n B (.region id os.toArray true) Q E H:=by
 let K:dY->List Ob->Prop:=fun E H=>B.G0.length=kl.length->∀a w,Rel (cx P kl n B) E H a w->∃E' H',Q .normal E' H'/\Rel (cx P kl n B) E' H' a w
 have h1:=cC (id:=id) (Q:=zS K Q) plan hm hl hp (Dr.run (h K (fun E H hq _ a w hR=>⟨E,H,hq,hR⟩) (fun E H i ag es bs cl hi hk hB a w hR=>hk hB a w (Rel.closeM hi hR))));intro hB a w hR;refine wp_mono (h1 hB a w hR) ?_;intro e a' w' ⟨E',H',hq,hR'⟩
 cases e <;> first|exact hq hB a' w' hR'|exact⟨E',H',hq,hR'⟩
end
def Jl(ids:List Nat):Va->Option Va
 |.nils=>some .nils
 |v=>gE ids v
def qA(ids:List Nat):List Va->Option (List Va)
 |[]=>some []
 |v::vs=>match Jl ids v,qA ids vs with
  |some u,some us=>some (u::us)
  |_,_=>none
theorem oX{K:Nat->Prop}{h:Array Obj}{G G1:List Gh}{ids:List Nat}(hG:∀(j o:Nat),ids[j]?=some o->G1[j]?=G[o]?):∀{cs:List Value} {vs us:List Va},qA ids vs=some us->VRs K h G cs vs->VRs K h G1 cs us
 |cs,[],us,hp,hv=>by simp only[qA]at hp;cases hp;simpa only[VRs]using hv
 |cs,v::vs,us,hp,hv=>by
  simp only[qA]at hp;split at hp
  .rename_i u us' h1 h2
   cases hp;simp only[VRs]at hv|-;obtain⟨c,cs',e1,e2,e3⟩:=hv;refine⟨c,cs',e1,?_,oX hG h2 e3⟩
   cases v <;> first|exact sT hG h1 e2|skip
   simp only[Jl]at h1;cases h1
   simpa only[VR]using e2
  .cases hp
section
variable {P:Program} {kl:List Bool} {n:Nat} {B:Bs} {ops:Array Oper} {K:dY->List Ob->Prop} {E:dY} {H:List Ob}
theorem dK{o:Oper}{l:List Oper}{f:FuncId}{av args:List Va}{X:List Ob}{Post:Va->List Ob->Prop}(ids:List Nat)(hs:Does P f args X Post)(ha:Is (rD E o) (some (f,av)))(hp:Is (qA ids av) (some args))(hXs:Is (ii ids H ids) (some X))(hids:iS H.length ids=true)(hok:fX n true E o)
  (cont:∀r X',Post r X'->r.ok->eS P kl n B ops K (eL P kl n ops.toList l ⟨eB (fF (fg ids H) E) o.dst (eH ids H.length r),eV (fc (fg ids H) H) ids (fO ids H.length X'),True⟩)):Rg P kl n B ops (o::l) E H K:=by
 obtain⟨c,fop,caps,e1,e2,e3,e4,rfl⟩:=B7 ha;obtain⟨hd,hk⟩:=ld hok e1 e3;intro hB a w Q hR hKK
 refine wpList_plain e2 fun K' hK'=>?_
 exact jJ ids hs e1 e3 hk e4 (fun hG hv=>oX hG hp hv) hXs hids hR fun c' r X' w' h1 h2 h3=>hK' _ _ (Rg.run (cont r X' h1 h2) hB _ _ _ (h3.put o.dst (zM hd)) hKK)
end
attribute [go_sem] Jl qA
end Go.Vc
