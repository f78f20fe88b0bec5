/- An abstract machine for the model: what it computes on, its operations, the walk of a body, and that all of it is true of the model (part 2). -/
import Derived.Test.YtpcihjdidhpbbaaGreatDoorVc1
import Derived.Below
import Derived.Carry
import Derived.ChangeArms
import Derived.ChangeSame
import Derived.Deep.LoopGhost
import Derived.JoinedCond
import Derived.LoopN
import Derived.Orders
import Derived.ProofKit
set_option linter.unusedSectionVars false
open List
namespace Go.Vc
variable [Tabs]
section
variable {C:Cx} {E:ey} {H:List Ob} {a:Act} {w:World}
theorem Er(j:Rel C E H a w)(o:Oper){t:TypeId}(e:o.op=.makeMap t none)(c:(nF C.P E H t).ok):gT C o a w (nF C.P E H t).v (nF C.P E H t).E (nF C.P E H t).H:=by
 obtain⟨K,G,k,f,l,n,p,q⟩:=j;unfold nF at c|-;split at c;rotate_left
 .exact c.elim
 rename_i A B r;have s:=Mn.alloc f.kb (.map #[] 0);have u:∀(o:Nat) (g:Gh),G[o]?=some g->(G++[⟨some w.heap.size,undef,[]⟩])[o]?=some g:=fun o g y=>Mg.push G _ o g rfl y;have d:(Instr.makeMap t none).run C.P w=.ok (.map (some w.heap.size)) (w.alloc (.map #[] 0)):=rfl;refine⟨_,_,.inl (by obtain⟨z,op,D,pos,F,I⟩:=o;cases e;exact ue d),?_⟩;refine⟨K,G++[⟨some w.heap.size,undef,[]⟩],k.trans (Ext.push C.kp _ undef),f.push (x:=.mp _ []) ?_,fun m=>VR.grow s u _ _ (l m),n,p,fun o e=>?_,?_⟩
 .exact⟨by simp,w.heap.size,#[],0,rfl,heap_alloc_new w _,by simp[MRs],MapKept.stamped_empty 0⟩
 .obtain⟨h,b,i⟩:=q o e;exact⟨h,by rw[getElem?_append_left (List.getElem?_eq_some_iff.1 b).1];exact b,i⟩
 .simp only[VR];refine⟨⟨some w.heap.size,undef,[]⟩,w.heap.size,?_,rfl,rfl⟩;rw[<-f.len,getElem?_append_right (Nat.le_refl _)];simp
theorem Sa(w:World)(b:Nat)(o:Obj):∀i,i≠b->({ w with heap:=w.heap.setIfInBounds b o }:World).heap[i]?=w.heap[i]?:=fun i h=>by simp[Ne.symm h]
theorem OR{K:Nat->Prop}{G:List Gh}(y:Ext C.kp C.K0 C.G0 C.w0 K G w)(r:St K G H w)(z:ja K w.heap G a E)(A:a.defers=[])(B:a.tmps.size=C.n)(D:gg C.kp H){p b:Nat}{g:Gh}(q:G[p]?=some g)(d:g.blk=some b)
  {s c:Array MapEntry} {f clock':Nat} {ag:Bool} {j:List (Dt×List Dt)} (hb:w.heap[b]?=some (.map s f)) (l:j.length<=eE) (hm:MRs K w.heap ag c.toList j) (t:MapKept.Stamped c clock') :
  RelV C E (H.set p (.mp ag j)) undef .top a { w with heap:=w.heap.setIfInBounds b (.map c clock') }:=by
 have u:b<w.heap.size:=(Array.getElem?_eq_some_iff.1 hb).1;have k:=Sa w b (.map c clock');have o:Mn K K w.heap (w.heap.setIfInBounds b (.map c clock')):=⟨fun _ h=>h,fun i hi=>k i fun e=>(r.gb p g b q d).2 (e ▸ hi)⟩;refine⟨K,G,y.trans (Ext.modA C.kp q d rfl ⟨rfl,fun _=>Nat.le_refl _⟩ rfl (by simp) k),r.modA q d (by simp) k ?_,fun m=>VR.grow o (fun _ _ h=>h) _ _ (z m),A,B,fun i hi=>?_,by simp only[VR]⟩
 .exact⟨l,b,c,clock',d,by simp[u],hm.mono o,t⟩
 .by_cases e:i=p
  .subst e;have:i<H.length:=by rw[<-r.len];exact(List.getElem?_eq_some_iff.1 q).1
   exact⟨_,getElem?_set_self this,rfl⟩
  .obtain⟨v,h,x⟩:=D i hi;exact⟨v,by rw[getElem?_set_ne (Ne.symm e)];exact h,x⟩
theorem Bn{K:Nat->Prop}{h:Array Obj}{G:List Gh}{c:Value}{v:Va}{ag:Bool}{row:List Dt}(e:VR K h G c v)(i:v.isCell=true)(g:L8 v=ag)(b:DRs K h c.cells.toList row)(j:ag=false->row.length=1):jy K h ag c row:=by
 cases ag with
 |true =>
  cases v <;> first|(simp[L8]at g;done)|skip
  rename_i k;simp only[VR]at e;obtain⟨cs,rfl,_⟩:=e;exact⟨cs,rfl,by simpa [Value.cells]using b⟩
 |false =>
  have a:=VR.one e i (by rintro k rfl;simp[L8]at g);have f:=Gf a;rw[f]at b;match row,j rfl with
  |[d],_ =>
   simp only[DRs]at b;obtain⟨_,_,l,m,_⟩:=b;cases l;exact⟨d,rfl,m⟩
theorem znR(hR:Rel C E H a w)(o:Oper){t:TypeId}{m k x:Operand}(T:o.op=.mapUpdate t m k x∨o.op=.insert t m k x)(hm:opOk true E m)(hk:opOk true E k)(hx:opOk true E x)(f:(jx C.P E H t (opnd E m) (opnd E k) (opnd E x)).ok) :
  gT C o a w (jx C.P E H t (opnd E m) (opnd E k) (opnd E x)).v (jx C.P E H t (opnd E m) (opnd E k) (opnd E x)).E (jx C.P E H t (opnd E m) (opnd E k) (opnd E x)).H:=by
 obtain⟨K,G,hX,hS,U,hd,hn,X⟩:=hR;have u:=zG U rfl m hm;have l:=zG U rfl k hk;have D:=zG U rfl x hx;unfold jx at f|-;split at f;rotate_left
 .exact f.elim
 rename_i kt et oo d Y Z hkv;split at f;rotate_left
 .exact f.elim
 rename_i ag es hob;split at f;rotate_left
 .exact f.elim
 rename_i r F;obtain⟨h1,h2,h3,h4,h5,h6⟩:=f;rw[Z]at u;have l:=Mx hkv l;simp only[VR]at u;obtain⟨g,b,hg,I,J⟩:=u;obtain⟨hlim,b',n,c,L,q,y,M⟩:=hS.ob oo g _ hg (zu hob (by simp));obtain rfl:b'=b:=by rw[I]at L;exact(Option.some.inj L).symm
 obtain⟨ti,ht,hk'⟩:=zL Y (by simp);have hu:=FP ht hk';obtain⟨N,z,A⟩:=MJ (P:=C.P) (w:=w) h2 l;have hcv:=pj (BJ D h3) F;have s:=Bn D h3 h4 hcv h5;have O:∀(h:Array MapEntry) (clock':Nat),(Instr.mapUpdate t (a.eval m) (a.eval k) (a.eval x)).run C.P w=.ok () { w with heap:=w.heap.setIfInBounds b' (.map h clock') }->MRs K w.heap ag h.toList (iH es d r)->MapKept.Stamped h clock' ->
   gT C o a w .top E (H.set oo (.mp ag (iH es d r))):=by
  intro h clock' hr Q R;refine⟨undef,_,.inr ⟨?_,rfl⟩,OR hX hS U hd hn X hg I (clock':=clock') q h6 Q R⟩;obtain⟨dst,op,ty,pos,af,gd⟩:=o;rcases T with T|T <;> (cases T;exact MT hr)
 rcases A y h1 with⟨a1,a2,V,_,a9⟩|⟨j,e,row',a1,a2,V,a4,a5,a6,_⟩
 .refine O (n.push { key:=a.eval k,val:=a.eval x,born:=c }) (c+1) ?_ ?_ (MapKept.stamped_push M a9)
  .rw[J];simp[Instr.mapUpdate,run_underlying hu,MapKept.run_getObj_map q,N,a1,MapKept.run_setObj_map _ q,Result.andThen]
  .rw[V];simpa using MRs.append (e:={ key:=a.eval k,val:=a.eval x,born:=c }) (p:=(d,r)) l s y
 .have W:n[j]?=some e:=by simpa using a2
  refine O (n.modify j fun e=>{ e with key:=a.eval k,val:=a.eval x }) c ?_ ?_ (MapKept.stamped_modify M j _ (fun _ _=>rfl) (fun e' _ S=>by rw[W]at S;cases S;exact V.symm))
  .rw[J];simp[Instr.mapUpdate,run_underlying hu,MapKept.run_getObj_map q,N,a1,W,V,z,MapKept.run_setObj_map _ q,Result.andThen]
  .rw[a6];have hjl:=(Array.getElem?_eq_some_iff.1 W).1
   have:(n.modify j fun e=>{ e with key:=a.eval k,val:=a.eval x }).toList=n.toList.set j { e with key:=a.eval k,val:=a.eval x }:=by
    apply ext_getElem?;intro i;rw[Array.getElem?_toList,Array.getElem?_modify];by_cases B:j=i
    .subst B;rw[if_pos rfl,W,getElem?_set_self (by simpa using hjl)];rfl
    .rw[if_neg B,getElem?_set_ne B,Array.getElem?_toList]
   rw[this];exact y.set (e:={ e with key:=a.eval k,val:=a.eval x }) (p:=(d,r)) l s j
theorem Fo(hR:Rel C E H a w)(o:Oper){c:Call}{m k:Operand}{t u:TypeId}(ho:o.op=.call c)(X:c.callee=.builtin .delete)(h2':c.args.toList=[m,k])(h3':c.argTypes.toList=[t,u])(hm:opOk true E m)(hk:opOk true E k)(F:(oA C.P E H t u (opnd E m) (opnd E k)).ok) :
  gT C o a w (oA C.P E H t u (opnd E m) (opnd E k)).v (oA C.P E H t u (opnd E m) (opnd E k)).E (oA C.P E H t u (opnd E m) (opnd E k)).H:=by
 obtain⟨K,G,hX,hS,hE,hd,hn,hkp⟩:=hR;have M:=zG hE rfl m hm;have N:=zG hE rfl k hk;unfold oA at F|-;split at F;rotate_left
 .exact F.elim
 rename_i kt et oo d hkm hom hkv;split at F;rotate_left
 .rename_i ag y bs cl hob;obtain⟨h1,h2⟩:=F;rw[hom]at M;have N:=Mx hkv N;simp only[VR]at M;obtain⟨g,b,Y,z,R⟩:=M;obtain⟨S,Q,q,T,s,D,U,A⟩:=hS.ob oo g _ Y (zu hob (by simp));obtain rfl:Q=b:=by rw[z]at T;exact(Option.some.inj T).symm
  obtain⟨ti,ht,hk'⟩:=zL hkm (by simp);have hu:=FP ht hk';obtain⟨V,hkeep,I⟩:=MJ (P:=C.P) (w:=w) h2 N;have W:∀(f:Array MapEntry),(Builtin.delete_ #[t,u] o.type #[a.eval m,a.eval k]).run C.P w=.ok (.tuple #[]) { w with heap:=w.heap.setIfInBounds Q (.map f cl) }->MRs K w.heap ag f.toList (iG y d)->(iG y d).length<=eE->MapKept.Stamped f cl->f.toList.map (·.born)=oN y bs d ->
    gT C o a w .top E (H.set oo (.mpb ag (iG y d) (oN y bs d) cl)):=by
   intro f hr J hl L hbo;have hrel:=OR hX hS hE hd hn hkp Y z (clock':=cl) s hl J L;refine⟨.tuple #[],{ w with heap:=w.heap.setIfInBounds Q (.map f cl) },.inl ?_,?_⟩
   .obtain⟨Z,args,n⟩:=c;obtain⟨dst,op,ty,pos,af,gd⟩:=o;cases ho;simp only at X h2' h3' hr;subst X;have ha:args=#[m,k]:=by cases args;simp_all
    have hat:n=#[t,u]:=by cases n;simp_all
    subst ha;subst hat;simp[execOp,resolve,invoke,builtin,hr]
   .have hlt:Q<w.heap.size:=(Array.getElem?_eq_some_iff.1 s).1;have hfr:=Sa w Q (.map f cl);have hMn:Mn K K w.heap (w.heap.setIfInBounds Q (.map f cl)):=⟨fun _ h=>h,fun i hi=>hfr i fun e=>(hS.gb oo g Q Y z).2 (e ▸ hi)⟩;refine⟨K,G,hX.trans (Ext.modA C.kp Y z rfl ⟨rfl,fun _=>Nat.le_refl _⟩ rfl (by simp) hfr),hS.modA Y z (by simp) hfr ?_,fun m=>VR.grow hMn (fun _ _ h=>h) _ _ (hE m),hd,hn,fun i hi=>?_,by simp only[VR]⟩
    .exact⟨hl,Q,f,z,by simp[hlt],J.mono hMn,L,hbo⟩
    .by_cases e:i=oo
     .subst e;have:i<H.length:=by rw[<-hS.len];exact(List.getElem?_eq_some_iff.1 Y).1
      exact⟨_,getElem?_set_self this,rfl⟩
     .obtain⟨vs',h,hkt⟩:=hkp i hi;exact⟨vs',by rw[getElem?_set_ne (Ne.symm e)];exact h,hkt⟩
  have hlen:y.length=bs.length:=by rw[<-A,length_map];exact D.length.symm
  rcases I D h1 with⟨a1,a2,a3,a4,a5⟩|⟨j,e,row',a1,a2,a3,a4,a5,a6,a7⟩
  .refine W q ?_ (by rw[a4];exact D) (by rw[a4];exact S) U ?_
   .rw[R];simp[Builtin.delete_,run_underlying hu,MapKept.run_getObj_map s,V,a1,MapKept.run_setObj_map _ s,Result.andThen]
   .rw[A]
    have:∀(y:List (Dt×List Dt)) (bs:List Nat),(∀r,iH y d r=y++[(d,r)])->oN y bs d=bs:=by
     intro y;induction y with
     |nil=>intro bs _;cases bs <;> rfl
     |cons p y ih =>
      intro bs hs;cases bs with
      |nil=>rfl
      |cons b bs =>
       simp only[iH,oN]at hs|-;cases hq:fM p.1 d with
       |true =>
        simp only[hq,cond_true]at hs;have:=congrArg List.length (hs []);simp at this
       |false =>
        simp only[hq,cond_false]at hs|-;rw[ih bs fun r=>by have:=hs r;simpa using this]
    exact(this y bs a3).symm
  .refine W (q.eraseIdxIfInBounds j) ?_ ?_ ?_ (MapKept.stamped_erase U j) ?_
   .rw[R];simp[Builtin.delete_,run_underlying hu,MapKept.run_getObj_map s,V,a1,MapKept.run_setObj_map _ s,Result.andThen]
   .have O:j<q.size:=by have:=(List.getElem?_eq_some_iff.1 a2).1;simpa using this
    rw[a7,show(q.eraseIdxIfInBounds j).toList=q.toList.eraseIdx j by unfold Array.eraseIdxIfInBounds;rw[dif_pos O,Array.toList_eraseIdx]];exact D.erase j
   .rw[a7];have:(y.eraseIdx j).length<=y.length:=by rw[length_eraseIdx];split <;> omega
    omega
   .have O:j<q.size:=by have:=(List.getElem?_eq_some_iff.1 a2).1;simpa using this
    have hme:∀(l:List MapEntry) (j:Nat),(l.eraseIdx j).map (·.born)=(l.map (·.born)).eraseIdx j:=by
     intro l;induction l with
     |nil=>intro j;simp
     |cons x l ih=>intro j;cases j <;> simp[ih]
    rw[show(q.eraseIdxIfInBounds j).toList=q.toList.eraseIdx j by unfold Array.eraseIdxIfInBounds;rw[dif_pos O,Array.toList_eraseIdx],hme,A];exact(so hlen a6 (by rw[hlen,<-A,length_map];simpa using O)).symm
 .exact F.elim
 rename_i ag y hob;obtain⟨h1,h2⟩:=F;rw[hom]at M;have N:=Mx hkv N;simp only[VR]at M;obtain⟨g,b,Y,z,R⟩:=M;obtain⟨S,Q,q,B,T,s,D,U⟩:=hS.ob oo g _ Y (zu hob (by simp));obtain rfl:Q=b:=by rw[z]at T;exact(Option.some.inj T).symm
 obtain⟨ti,ht,hk'⟩:=zL hkm (by simp);have hu:=FP ht hk';obtain⟨V,hkeep,I⟩:=MJ (P:=C.P) (w:=w) h2 N;have W:∀(f:Array MapEntry),(Builtin.delete_ #[t,u] o.type #[a.eval m,a.eval k]).run C.P w=.ok (.tuple #[]) { w with heap:=w.heap.setIfInBounds Q (.map f B) }->MRs K w.heap ag f.toList (iG y d)->(iG y d).length<=eE->MapKept.Stamped f B ->
   gT C o a w .top E (H.set oo (.mp ag (iG y d))):=by
  intro f hr J hl L;have hrel:=OR hX hS hE hd hn hkp Y z (clock':=B) s hl J L;refine⟨.tuple #[],{ w with heap:=w.heap.setIfInBounds Q (.map f B) },.inl ?_,?_⟩
  .obtain⟨Z,args,n⟩:=c;obtain⟨dst,op,ty,pos,af,gd⟩:=o;cases ho;simp only at X h2' h3' hr;subst X;have ha:args=#[m,k]:=by cases args;simp_all
   have hat:n=#[t,u]:=by cases n;simp_all
   subst ha;subst hat;simp[execOp,resolve,invoke,builtin,hr]
  .obtain⟨K',G',r1,r2,r3,r4,r5,r6,_⟩:=hrel;exact⟨K',G',r1,r2,r3,r4,r5,r6,by simp only[VR]⟩
 rcases I D h1 with⟨a1,a2,_,a4,_⟩|⟨j,e,row',a1,a2,a3,a4,a5,_,a7⟩
 .refine W q ?_ (by rw[a4];exact D) (by rw[a4];exact S) U;rw[R];simp[Builtin.delete_,run_underlying hu,MapKept.run_getObj_map s,V,a1,MapKept.run_setObj_map _ s,Result.andThen]
 .refine W (q.eraseIdxIfInBounds j) ?_ ?_ ?_ (MapKept.stamped_erase U j)
  .rw[R];simp[Builtin.delete_,run_underlying hu,MapKept.run_getObj_map s,V,a1,MapKept.run_setObj_map _ s,Result.andThen]
  .have O:j<q.size:=by have:=(List.getElem?_eq_some_iff.1 a2).1;simpa using this
   rw[a7,show(q.eraseIdxIfInBounds j).toList=q.toList.eraseIdx j by unfold Array.eraseIdxIfInBounds;rw[dif_pos O,Array.toList_eraseIdx]];exact D.erase j
  .rw[a7];have:(y.eraseIdx j).length<=y.length:=by rw[length_eraseIdx];split <;> omega
   omega
end
section
variable {C:Cx} {E:ey} {H:List Ob} {a:Act} {w:World}
theorem Bt{K:Nat->Prop}{G:List Gh}(O:St K G H w){c:Value}{x:Va}(t:VR K w.heap G c x){rows:List (List Dt)}(m:FU H x=some rows){u e:TypeId}{esz:Nat}(g:uu C.P u esz e x rows){i:TypeInfo}(hi:i.size=esz) :
  ∃f d,C.P.underlying u=some d/\((∃k,d=.slice k)∨d=.string)/\pb C.P w i.size c rows.length f/\DRss K w.heap esz f rows:=by
 have Q:∀(m:Cw H x=some rows) (g:fh esz rows/\match zB C.P u with|.slice _ _ _ _=>True|_=>False),∃f d,C.P.underlying u=some d/\((∃k,d=.slice k)∨d=.string)/\pb C.P w i.size c rows.length f/\DRss K w.heap esz f rows:=by
  intro m ⟨n,o⟩;have:∃k J L ez,zB C.P u=.slice k J L ez:=by
   split at o
   .exact⟨_,_,_,_,by assumption⟩
   .exact o.elim
  obtain⟨k,J,L,ez,y⟩:=this;obtain⟨R,p,h⟩:=zL y (by simp);obtain⟨q,S⟩:=Ph O t m;rcases S with⟨a,z,rfl,rfl⟩|⟨b,A,z,cs,T,U,Y,M,rfl,hb,V,B⟩
  .exact⟨[],_,(jh p h).1,.inl ⟨k,rfl⟩,⟨fun _=>rfl,fun _ _=>by cases a <;> simp[Builtin.firstCells,loadCells,loadCellsFrom],by simp⟩,by simp[DRss]⟩
  .rcases Classical.em (rows=[])with rfl|D
   .refine⟨[],_,(jh p h).1,.inl ⟨k,rfl⟩,⟨fun _=>rfl,fun s _=>?_,by simp⟩,by simp[DRss]⟩;simp[Builtin.firstCells,loadCells,loadCellsFrom]
   .have E:=B.sz n D;subst E;have N:=B.length;refine⟨M,_,(jh p h).1,.inl ⟨k,rfl⟩,⟨fun _=>rfl,fun s F=>?_,by rw[N,hi]⟩,B⟩;refine run_firstCells_some (P:=C.P) s i.size rows.length _ _ _ M (by rw[N,hi]) (fun j v W=>?_);rw[mz,cell_of_row s b (A+j) cs T U (by rw[F];exact hb)];exact V j v W
 unfold FU at m;split at m
 .rename_i l;cases m;simp only[uu]at g;obtain⟨y,rfl,X⟩:=g;obtain⟨R,p,h⟩:=zL y (by simp);simp only[VR,DR]at t;obtain⟨rfl,q⟩:=t;refine⟨l.map fun b=>Value.int .u8 b.toNat,_,Cv p h,.inr rfl,⟨fun _=>by simp[Builtin.lenOf,ByteArray.size,bR],fun s _=>?_,by simp[bR,hi]⟩,DRss.bytes l⟩;have e:(⟨l.toArray⟩:ByteArray).extract 0 (bR l).length=⟨l.toArray⟩:=by apply ByteArray.ext;rw[ByteArray.data_extract];simp[bR]
  simp only[Builtin.firstCells,e,Sem.run_pure];simp
 .rename_i I
  have r:fh esz rows/\match zB C.P u with|.slice _ _ _ _=>True|_=>False:=by
   unfold uu at g;split at g
   .rename_i l;exact absurd rfl (I l)
   .exact g
  exact Q m r
theorem R2{K:Nat->Prop}{h:Array Obj}:∀{rows:List (List Dt)} {e:List Value},DRss K h 1 e rows->fN rows->e=(gD rows).map mx/\(gD rows).length=rows.length
 |[],e,d,_=>by simp only[DRss]at d;subst d;exact⟨rfl,rfl⟩
 |[.i k n]::o,e,d,c=>by
  simp only[fN]at c;obtain⟨rfl,c⟩:=c;simp only[DRss,DRs,DR]at d;obtain⟨a,b,rfl,_,⟨v,f,rfl,⟨rfl,g⟩,rfl⟩,d⟩:=d;obtain⟨j,m⟩:=R2 d c;simp only[Fits,lo,hi]at g;refine⟨?_,by simp[gD,m]⟩;simp only[gD,map_cons,cons_append,nil_append,j,mx];congr 2;rw[UInt8.toNat_ofNat'];omega
 |[]::_,_,_,c=>by simp[fN]at c
 |[.b _]::_,_,_,c=>by simp[fN]at c
 |[.s _]::_,_,_,c=>by simp[fN]at c
 |[.l _]::_,_,_,c=>by simp[fN]at c
 |[.a _]::_,_,_,c=>by simp[fN]at c
 |(_::_::_)::_,_,_,c=>by simp[fN]at c
theorem vA{c:Call}{x:Operand}(e:c.callee=.builtin .unsafeSliceData)(g:c.args.toList=[x]){o:Oper}(h:o.op=.call c){v:Value}{w':World}
  (f:∀i,(Builtin.unsafeSliceData_ i o.type #[a.eval x]).run C.P w=.ok v w'):(execOp a.eval o).run C.P w=.ok (.value v) w':=by
 obtain⟨d,args,b⟩:=c;obtain⟨j,op,l,pos,m,n⟩:=o;cases h;simp only at e g f;subst e;have k:args=#[x]:=by cases args;simp_all
 subst k;simp[execOp,resolve,invoke,builtin,f]
theorem uX{c:Call}{x y:Operand}{t u:TypeId}(e:c.callee=.builtin .unsafeString)(g:c.args.toList=[x,y])(h:c.argTypes.toList=[t,u]){o:Oper}(i:o.op=.call c){v:Value}{w':World}
  (f:(Builtin.unsafeString_ #[t,u] o.type #[a.eval x,a.eval y]).run C.P w=.ok v w'):(execOp a.eval o).run C.P w=.ok (.value v) w':=by
 obtain⟨d,args,b⟩:=c;obtain⟨j,op,m,pos,n,p⟩:=o;cases i;simp only at e g h f;subst e;have k:args=#[x,y]:=by cases args;simp_all
 have l:b=#[t,u]:=by cases b;simp_all
 subst k;subst l;simp[execOp,resolve,invoke,builtin,f]
theorem Ka(D:Rel C E H a w)(o:Oper){c:Call}{x:Operand}(s:c.callee=.builtin .unsafeSliceData)(t:c.args.toList=[x])(u:o.op=.call c)(F:opOk true E x)(d:(Kb H (opnd E x)).ok) :
  gT C o a w (Kb H (opnd E x)).v E H:=by
 obtain⟨K,G,y,k,l,z,A,f⟩:=D;have e:=zG l rfl x F;unfold Kb at d|-;split at d;rotate_left
 .exact d.elim
 rename_i I m;split at d;rotate_left
 .exact d.elim
 rename_i T O n;rw[m]at e;simp only[VR]at e;obtain⟨g,p,h,_⟩:=e;obtain⟨B,J⟩:=k.ob I g _ p (zu n (by simp));rcases J with⟨i,rfl,_⟩|⟨b,q,L,P,j,M,hb,N,Q,R,S,U,V⟩
 .refine⟨.pointer none,w,.inl (vA s t u fun r=>?_),K,G,y,k,l,z,A,f,?_⟩
  .rw[h,i];exact Lib.run_unsafeSliceData_nil w r _ 0 0
  .simp only[VR];exact⟨g,none,0,0,p,i,rfl⟩
 .refine⟨.pointer (some ⟨b,0,none⟩),w,.inl (vA s t u fun r=>?_),K,G,y,k,l,z,A,f,?_⟩
  .rw[h,j];exact Lib.run_unsafeSliceData_row w r _ _ _ q (by omega)
  .simp only[VR];exact⟨g,_,_,_,p,j,rfl⟩
theorem lT{a:Nat×Nat}{n:Nat}(h:pe a n):pe (if a.1 == a.2 then(0,n)else(min a.1 0,max a.2 n)) n:=by
 by_cases e:a.1=a.2
 .simp[e,pe]
 .rcases h with h|⟨b,c⟩
  .exact absurd h e
  .have:(a.1 == a.2)=false:=by simpa using e
   rw[this];simp only[Bool.false_eq_true,if_false,pe];right;omega
theorem I7(hR:Rel C E H a w)(o:Oper){c:Call}{x y:Operand}{t u:TypeId}(h1:c.callee=.builtin .unsafeString)(h2:c.args.toList=[x,y])(h3:c.argTypes.toList=[t,u])(ho:o.op=.call c)(hx:opOk true E x)(hy:opOk true E y)(f:(I8 C.P H t (opnd E x) (opnd E y)).ok) :
  gT C o a w (I8 C.P H t (opnd E x) (opnd E y)).v E H:=by
 obtain⟨K,G,hX,hS,hE,hd,hn,O⟩:=hR;have F:=zG hE rfl x hx;have I:=zG hE rfl y hy;unfold I8 at f|-;split at f;rotate_left
 .exact f.elim
 rename_i oo k n hox hoy;split at f;rotate_left
 .exact f.elim
 rename_i T d Q;obtain⟨q,rfl,rfl⟩:=f;rw[hox]at F;rw[hoy]at I;simp only[VR,DR]at F I;obtain⟨g,ad,m,cp,hg,R,S⟩:=F;obtain⟨U,_⟩:=I;obtain⟨r,hh⟩:=hS.ob oo g _ hg (zu Q (by simp));have V:C.P.underlying t=some (.pointer T)/\C.P.cellsOf T=1:=by
  unfold Qs at q;split at q
  .rename_i e hu;simp only[Bool.and_eq_true,decide_eq_true_eq]at q;obtain⟨rfl,hc⟩:=q;exact⟨hu,hc⟩
  .cases q
 have W:∀w':World,VR K w'.heap G (.string ⟨d.toArray⟩) (.p (.s d)):=fun w'=>by simp only[VR,DR];exact⟨trivial,r⟩
 have J:d=[]->(execOp a.eval o).run C.P w=.ok (.value (.string ⟨d.toArray⟩)) w:=by rintro rfl;refine uX h1 h2 h3 ho ?_;rw[S,U];exact Lib.run_unsafeString_none (P:=C.P) w t u o.type ad
 rcases Classical.em (d=[])with D|D
 .exact⟨_,w,.inl (J D),K,G,hX,hS,hE,hd,hn,O,W w⟩
 rcases hh with⟨_,h,_⟩|⟨b,cap,l,N,L,A,hb,hfr,h4,h5,h6,h7,h8⟩
 .exact absurd h D
 have X:ad=some ⟨b,0,none⟩:=by rw[R]at L;injection L
 subst X;have hsh:w.shape? b=some (T,l.size):=by simp[World.shape?,hb]
 have Y:=Lib.run_unsafeString_row (P:=C.P) w t u o.type T V.1 V.2 b l.size hsh d D (by omega) (by unfold eE at r;omega) (fun j x hj=>by
  rw[mz,cell_of_row w b (0+j) l T N hb,Nat.zero_add,<-Array.getElem?_toList];have:(l.toList.take d.length)[j]?=some (mx x):=by rw[h8,getElem?_map,hj];rfl
  rw[getElem?_take]at this;split at this
  .exact this
  .cases this)
 have hb':(w.freeze ⟨b,0,none⟩ d.length).heap[b]?=some (.cells l T (if N.1 == N.2 then(0,d.length)else(min N.1 0,max N.2 d.length))):=by
  have B:d.length≠0:=by simpa using D
  obtain⟨f1,f2⟩:=N;simp[World.freeze,B,Array.getElem?_modify,hb]
 have z:∀i,i≠b->(w.freeze ⟨b,0,none⟩ d.length).heap[i]?=w.heap[i]?:=by
  intro i hi;have B:d.length≠0:=by simpa using D
  simp[World.freeze,B,Array.getElem?_modify,Ne.symm hi]
 have Z:(w.freeze ⟨b,0,none⟩ d.length).heap.size=w.heap.size:=by
  have B:d.length≠0:=by simpa using D
  simp[World.freeze,B]
 have M:(w.freeze ⟨b,0,none⟩ d.length).os=w.os/\Tp w (w.freeze ⟨b,0,none⟩ d.length)/\(w.freeze ⟨b,0,none⟩ d.length).output=w.output:=by
  have B:d.length≠0:=by simpa using D
  simp[World.freeze,B,Tp]
 have hMn:Mn K K w.heap (w.freeze ⟨b,0,none⟩ d.length).heap:=⟨fun _ h=>h,fun i hi=>z i fun e=>(hS.gb oo g b hg A).2 (e ▸ hi)⟩;have hset:H.set oo (.sb T d)=H:=by have:=zu Q (by simp);obtain⟨B,he⟩:=List.getElem?_eq_some_iff.1 this;rw[<-he];exact set_getElem_self B
 have hS':=hS.modA (x:=.sb T d) hg A Z z ⟨r,.inr ⟨b,cap,l,_,L,A,hb',lT hfr,h4,h5,h6,h7,h8⟩⟩;rw[hset]at hS';refine⟨.string ⟨d.toArray⟩,w.freeze ⟨b,0,none⟩ d.length,.inl (uX h1 h2 h3 ho ?_),K,G,hX.trans (Ext.modA C.kp hg A M.1 M.2.1 M.2.2 Z z),hS',fun m=>VR.grow hMn (fun _ _ h=>h) _ _ (hE m),hd,hn,O,W _⟩;rw[S,U];exact Y
theorem RW(B:Rel C E H a w)(l:Option Addr)(x:Ob)(D:∀K h G,ObR K h G ⟨none,.slice l 0 0,[]⟩ x):RelV C E (H++[x]) (.slice l 0 0) (.buf H.length) a w:=by
 obtain⟨K,G,F,f,I,J,r,L⟩:=B;have d:∀{i:Nat} {g:Gh},(G++[⟨none,.slice l 0 0,[]⟩])[i]?=some g->(G[i]?=some g)∨(i=G.length/\g=⟨none,.slice l 0 0,[]⟩):=by
  intro i g c;rcases Nat.lt_or_ge i G.length with h|h
  .rw[getElem?_append_left h]at c;exact .inl c
  .rw[getElem?_append_right h]at c
   have:i-G.length=0:=by
    rcases Nat.lt_or_ge (i-G.length) 1 with q|q
    .omega
    .rw[getElem?_eq_none (by simpa using q)]at c;cases c
   rw[this]at c;simp at c;exact .inr ⟨by omega,c.symm⟩
 have v:∀(o:Nat) (g:Gh),G[o]?=some g->(G++[⟨none,.slice l 0 0,[]⟩])[o]?=some g:=fun o g c=>Mg.push G _ o g rfl c;have z:Mn K K w.heap w.heap:=⟨fun _ h=>h,fun _ _=>rfl⟩;refine⟨K,G++[⟨none,.slice l 0 0,[]⟩],?_,?_,fun m=>VR.grow z v _ _ (I m),J,r,fun o M=>?_,?_⟩
 .refine F.trans { Ext.refl C.kp K G w with glen:=by simp,gown:=fun i g b c hb=>?_,gsame:=fun i N _ O=>v i N O };rcases d c with h|⟨_,rfl⟩
  .exact .inl ⟨i,g,h,hb⟩
  .exact(uh hb).elim
 .refine⟨by simp[f.len],f.kb,fun i g b c hb=>?_,fun i j g P b c s hb n=>?_,fun i g y c p=>?_,f.tb⟩
  .rcases d c with h|⟨_,rfl⟩
   .exact f.gbo i g b h hb
   .exact(uh hb).elim
  .rcases d c with h|⟨_,rfl⟩
   .rcases d s with q|⟨_,rfl⟩
    .exact f.ijo i j g P b h q hb n
    .exact(uh n).elim
   .exact(uh hb).elim
  .rcases d c with h|⟨e,rfl⟩
   .have A:=(List.getElem?_eq_some_iff.1 h).1;rw[f.len]at A;rw[getElem?_append_left A]at p;exact ObR.keep z (Mg.push G _) (fun _ _=>rfl) (Ob.all_true _) (f.ob i g y h p)
   .subst e;rw[f.len,getElem?_append_right (Nat.le_refl _)]at p;simp at p;subst p;exact D _ _ _
 .obtain⟨t,k,u⟩:=L o M;exact⟨t,by rw[getElem?_append_left (List.getElem?_eq_some_iff.1 k).1];exact k,u⟩
 .simp only[VR];refine⟨⟨none,.slice l 0 0,[]⟩,?_,rfl,_,_,_,rfl⟩;rw[<-f.len,getElem?_append_right (Nat.le_refl _)];simp
theorem RE(b:Rel C E H a w)(x:Ob)(c:∀K h G,ObR K h G ⟨none,.slice none 0 0,[]⟩ x):RelV C E (H++[x]) (.slice none 0 0) (.buf H.length) a w:=RW b none x c
theorem RD(c:Rel C E H a w)(b:Option Addr)(T:TypeId)(sz:Nat):RelV C E (H++[.buf T sz []]) (.slice b 0 0) (.buf H.length) a w :=
 RW c b _ fun _ _ _=>⟨by simp,[],by simp[DRss],.inl ⟨⟨b,rfl⟩,rfl,rfl⟩⟩
theorem jZ(b:Rel C E H a w)(T:TypeId)(sz:Nat):RelV C E (H++[.buf T sz []]) (.slice none 0 0) (.buf H.length) a w :=
 RE b _ fun _ _ _=>⟨by simp,[],by simp[DRss],.inl ⟨⟨none,rfl⟩,rfl,rfl⟩⟩
theorem CP{c:Call}{x y:Operand}{t u:TypeId}(e:c.callee=.builtin .append)(g:c.args.toList=[x,y])(h:c.argTypes.toList=[t,u]){o:Oper}(i:o.op=.call c){v:Value}{w':World}
  (f:(Builtin.append_ #[t,u] o.type #[a.eval x,a.eval y]).run C.P w=.ok v w'):(execOp a.eval o).run C.P w=.ok (.value v) w':=by
 obtain⟨d,args,b⟩:=c;obtain⟨j,op,m,pos,n,p⟩:=o;cases i;simp only at e g h f;subst e;have k:args=#[x,y]:=by cases args;simp_all
 have l:b=#[t,u]:=by cases b;simp_all
 subst k;subst l;simp[execOp,resolve,invoke,builtin,f]
theorem xB(hR:Rel C E H a w)(o:Oper){c:Call}{x y:Operand}{t u:TypeId}(h1:c.callee=.builtin .append)(h2:c.args.toList=[x,y])(h3:c.argTypes.toList=[t,u])(ho:o.op=.call c)
  (hx:opOk true E x) (hy:opOk true E y) (B:(oQ C.P C.kp E H t u (opnd E x) (opnd E y)).ok) :
  gT C o a w (oQ C.P C.kp E H t u (opnd E x) (opnd E y)).v (oQ C.P C.kp E H t u (opnd E x) (opnd E y)).E (oQ C.P C.kp E H t u (opnd E x) (opnd E y)).H:=by
 obtain⟨K,G,hX,Y,hE,hd,hn,Z⟩:=hR;have D:=zG hE rfl x hx;have hvy:=zG hE rfl y hy;unfold oQ at B|-;split at B;rotate_left
 .exact B.elim
 rename_i e esz eb ez hk;obtain⟨ti,ht,hk'⟩:=zL hk (by simp);obtain⟨hu,⟨i,hi1,S,hi3⟩,hez⟩:=jh ht hk';have hzi:∃zv,i.zero=some zv/\zv.cells.toList=ez:=by unfold xR at hez;rw[hi1]at hez;simp at hez;exact hez
 obtain⟨zv,hzv,hzc⟩:=hzi;split at B;rotate_left
 .exact B.elim
 rename_i f W
 -- an object that has grown
 have ol:∀(U:List Gh) (H1:List Ob) (oo:Nat) (g:Gh) (X:Ob),St K U H1 w->U[oo]?=some g->g.sv=a.eval x->C.kp oo=false->Ext C.kp C.K0 C.G0 C.w0 K U w->ja K w.heap U a E->gg C.kp H1 ->
   (∃sv w' g1,(Builtin.append_ #[t,u] o.type #[g.sv,a.eval y]).run C.P w=.ok sv w'/\g1.sv=sv/\(∃a n c,sv=.slice a n c)/\w'.os=w.os/\Tp w w'/\w'.output=w.output/\w.heap.size<=w'.heap.size /\
    (∀i,i<w.heap.size->¬ own g i->w'.heap[i]?=w.heap[i]?)/\(∀b,own g1 b->b<w'.heap.size/\(own g b∨w.heap.size<=b))/\ObR K w'.heap (U.set oo g1) g1 X) ->
   gT C o a w (.buf oo) (fZ (· != oo) E) ((fF (· != oo) H1).set oo X):=by
  intro U H1 oo g X hS1 hg hsv Q hX1 hE1 hkp1 hh;obtain⟨sv,w',g1,hrun,hg1,hslice,e1,e2,e3,e4,e5,e6,e7⟩:=hh;refine⟨sv,w',.inl (CP h1 h2 h3 ho (by rw[<-hsv];exact hrun)),?_⟩;have hM:Mn K K w.heap w'.heap:=⟨fun _ h=>h,fun b hb=>e5 b (hS1.kb b hb) fun e=>(hS1.gbo oo g b hg e).2 hb⟩;have hMg:Mg (· != oo) U (U.set oo g1):=fun j g' hj hg'=>by rw[getElem?_set_ne (by simpa using Ne.symm (by simpa using hj))];exact hg'
  have hol:oo<U.length:=(List.getElem?_eq_some_iff.1 hg).1;refine⟨K,U.set oo g1,hX1.trans (Ext.modB hg Q e1 e2 e3 e4 e5 (fun b hb=>(e6 b hb).2)),?_,fun m=>?_,hd,hn,fun j hj=>?_,?_⟩
  .rw[pp];exact hS1.modB hg e4 e5 e6 e7
  .rw[sH];exact VR.prune hM hMg _ _ (hE1 m)
  .obtain⟨vs,hvs,hkt⟩:=hkp1 j hj;have hne:j≠oo:=fun h=>by rw[h,Q]at hj;cases hj
   refine⟨vs.prune (· != oo),?_,dh hkt⟩;rw[getElem?_set_ne (Ne.symm hne),pp,getElem?_map,hvs];rfl
  .simp only[VR];exact⟨g1,getElem?_set_self hol,hg1.symm,by rw[hg1];exact hslice⟩
 -- the step on an object at hand
 have step:∀(U:List Gh) (H1:List Ob) (oo:Nat) (g:Gh) (rows:List (List Dt)),St K U H1 w->U[oo]?=some g->ObR K w.heap U g (.buf e esz rows)->g.sv=a.eval x->FU H1 (opnd E y)=some f->VR K w.heap U (a.eval y) (opnd E y) ->
   ez.length=esz->eb<=512->(rows++f).length<=eE->uu C.P u esz e (opnd E y) f->C.kp oo=false->Ext C.kp C.K0 C.G0 C.w0 K U w->ja K w.heap U a E->gg C.kp H1 ->
   gT C o a w (.buf oo) (fZ (· != oo) E) ((fF (· != oo) H1).set oo (.buf e esz (rows++f))):=by
  intro U H1 oo g rows hS1 hg hob hsv hsrc1 hvy1 M N q O Q hX1 hE1 hkp1;obtain⟨r,d,I,J,F,L⟩:=Bt (C:=C) hS1 hvy1 hsrc1 O S;have hby:(rows++f).length*i.bytes<=140737488355328:=by rw[hi3];have:=Nat.mul_le_mul q N;unfold eE at this;omega
  exact ol U H1 oo g _ hS1 hg hsv Q hX1 hE1 hkp1 (FF (P:=C.P) hS1 hg hob (t:=t) (u:=u) (ty:=o.type) hu I J hi1 S hzv (by rw[<-M,<-hzc];simp) F L.ones L rfl q hby)
 have grow:∀(z:Option Addr) (n cap:Nat) (rows:List (List Dt)) (A:List Value),a.eval x=.slice z n cap->pb C.P w i.size (.slice z n cap) n A->rows.length=n->DRss K w.heap esz A rows->n=cap ->
   ∀(r:List Value) (d:TypeDesc),C.P.underlying u=some d->((∃k,d=.slice k)∨d=.string)->pb C.P w i.size (a.eval y) f.length r->DRss K w.heap esz r f ->
   ez.length=esz->eb<=512->(rows++f).length<=eE->0<f.length->∀dat:Bool,gT C o a w (match dat with|true=>.p (.l (rows++f))|false=>.buf H.length) E (match dat with|true=>H|false=>H++[.buf e esz (rows++f)]):=by
  intro z n cap rows A s hos hrn hod hnc r d I J F L M N q R dat;subst hrn;subst hnc;have V:rows.length+f.length<=eE:=by simpa using q
  have hby:(rows.length+f.length)*i.bytes<=140737488355328:=by rw[hi3];have:=Nat.mul_le_mul V N;unfold eE at this;omega
  have hl63:rows.length+f.length<=9223372036854775807:=by unfold eE at V;omega
  have hrun:=PQ (P:=C.P) w (ty:=o.type) hu I J hi1 hzv hos F (by omega) hl63 (growslice_fits (by omega) hby);have hge:=grownCap_ge w (rows.length+f.length) rows.length e;have hcm:=grownCap_le_maxLen w (rows.length+f.length) rows.length e (by simp only[maxLen];omega);have hol:=hod.length;have hnl:=L.length;have hzs:zv.cells.size=esz:=by rw[<-M,<-hzc];simp
  refine⟨_,_,.inl (CP h1 h2 h3 ho (by rw[s];exact hrun)),?_⟩;cases dat
  .refine Hw (w1:=w.drew) hX Y hE hd hn Z (.inr rfl) (xs:=A++r) (hod.append L) (by simp) V (Free.zero _) hge hcm ?_ ?_
   .simp only[Array.size_append,size_toArray,size_zeroCells,hzs,hol,hnl,<-Nat.add_mul];congr 1;omega
   .simp only[Array.toList_append,append_assoc];rw[<-append_assoc];have:(A++r).length=(rows.length+f.length)*esz:=by rw[length_append,hol,hnl,Nat.add_mul]
    rw[<-this];exact take_left
  .refine vM (w1:=w.drew) hX Y hE hd hn Z (.inr rfl) (xs:=A++r) (hod.append L) (by simp) V (Free.zero _) hge hcm ?_ ?_
   .simp only[Array.size_append,size_toArray,size_zeroCells,hzs,hol,hnl,<-Nat.add_mul];congr 1;omega
   .simp only[Array.toList_append,append_assoc];rw[<-append_assoc];have:(A++r).length=(rows.length+f.length)*esz:=by rw[length_append,hol,hnl,Nat.add_mul]
    rw[<-this];exact take_left
 split at B
 .rename_i oo hox;split at B;rotate_left
  .rename_i T bs hob;obtain⟨Q,rfl,rfl,M,N,q,hall,O⟩:=B;rw[hox]at D;simp only[VR]at D;obtain⟨g,hg,s,_⟩:=D;obtain⟨r,d,I,J,F,L⟩:=Bt (C:=C) Y hvy W O S;obtain⟨hnb,hbl⟩:=R2 L hall;rw[hnb,<-hbl]at F;have hby:(bs++gD f).length*i.bytes<=140737488355328:=by rw[hi3];have:=Nat.mul_le_mul q N;unfold eE at this;omega
   exact ol G H oo g _ Y hg s.symm Q hX hE Z (tU (P:=C.P) Y hg (Y.ob oo g _ hg (zu hob (by simp))) (t:=t) (u:=u) (ty:=o.type) hu I J hi1 S hzv (by rw[<-M,<-hzc];simp) F q hby)
  .exact B.elim
  rename_i T sz rows hob;obtain⟨Q,rfl,rfl,M,N,q,O⟩:=B;rw[hox]at D;simp only[VR]at D;obtain⟨g,hg,s,_⟩:=D;exact step G H oo g rows Y hg (Y.ob oo g _ hg (zu hob (by simp))) s.symm W hvy M N q O Q hX hE Z
 .rename_i hox;obtain⟨Q,M,N,q,O⟩:=B;rw[hox]at D;simp only[VR]at D;obtain⟨r,d,I,J,F,L⟩:=Bt (C:=C) Y hvy W O S;rcases Nat.eq_zero_or_pos f.length with h0|R
  .have hr0:f=[]:=length_eq_zero_iff.1 h0;subst hr0;exact⟨_,w,.inl (CP h1 h2 h3 ho (by rw[D];exact Ix (P:=C.P) w hu I J hi1 F none)),jZ ⟨K,G,hX,Y,hE,hd,hn,Z⟩ e esz⟩
  .have hs0:pb C.P w i.size (.slice none 0 0) 0 []:=⟨fun _=>rfl,fun _ _=>by simp[Builtin.firstCells],by simp⟩;exact grow none 0 0 [] [] D hs0 rfl (by simp[DRss]) rfl r d I J F L M N (by simpa using q) R false
 .rename_i rows hox;cases hdb:Fr C.P e (opnd E y)with
  |true =>
   simp only[hdb]at B;obtain⟨M,N,q,hszk,R,O⟩:=B;rw[hox]at D;obtain⟨r,d,I,J,F,L⟩:=Bt (C:=C) Y hvy W O S;obtain⟨A,d2,_,_,hos,hod⟩:=Bt (C:=C) (u:=t) (e:=e) Y D (rows:=rows) rfl ⟨hszk,by rw[hk];trivial⟩ S;have s:=D;simp only[VR]at s;obtain⟨_,z,s⟩:=s;rw[s]at hos;rcases Nat.eq_zero_or_pos f.length with h0|hpos'
   .have hr0:f=[]:=length_eq_zero_iff.1 h0;subst hr0;cases rows with
    |cons _ _=>simp[iX]at R
    |nil=>exact⟨_,w,.inl (CP h1 h2 h3 ho (by rw[s];exact Ix (P:=C.P) w hu I J hi1 F z)),⟨K,G,hX,Y,hE,hd,hn,Z,by simp only[VR,DR];exact .inl ⟨⟨z,rfl⟩,rfl⟩⟩⟩
   .exact grow z rows.length rows.length rows A s hos rfl hod rfl r d I J F L M N q hpos' true
  |false =>
   simp only[hdb]at B;obtain⟨Q,M,N,q,hszk,R,O⟩:=B;rw[hox]at D;obtain⟨r,d,I,J,F,L⟩:=Bt (C:=C) Y hvy W O S;obtain⟨A,d2,_,_,hos,hod⟩:=Bt (C:=C) (u:=t) (e:=e) Y D (rows:=rows) rfl ⟨hszk,by rw[hk];trivial⟩ S;have s:=D;simp only[VR]at s;obtain⟨_,z,s⟩:=s;rw[s]at hos;rcases Nat.eq_zero_or_pos f.length with h0|hpos'
   .have hr0:f=[]:=length_eq_zero_iff.1 h0;subst hr0;cases rows with
    |cons _ _=>simp[iX]at R
    |nil=>exact⟨_,w,.inl (CP h1 h2 h3 ho (by rw[s];exact Ix (P:=C.P) w hu I J hi1 F z)),RD ⟨K,G,hX,Y,hE,hd,hn,Z⟩ z e esz⟩
   .exact grow z rows.length rows.length rows A s hos rfl hod rfl r d I J F L M N q hpos' false
 .exact B.elim
def tB(C:Cx)(E:ey)(H:List Ob)(o:Oper):Prop :=
 (kP C.P C.kp E H o.op).ok->∀a w,Rel C E H a w->gT C o a w (kP C.P C.kp E H o.op).v (kP C.P C.kp E H o.op).E (kP C.P C.kp E H o.op).H
theorem A0(C:Cx)(E:ey)(H:List Ob)(o:Oper):tB C E H o:=by
 intro b a w f;cases e:o.op <;> rw[e]at b <;> simp only[kP]at b|- <;> try (exact b.elim)
 case alloc t=>exact xF f o e b
 case box t x=>exact Fy f o e b
 case buildSlice t n j=>exact Fx f o e b
 case store t x y=>exact vj f o e b.1 b.2.1 b.2.2
 case convert s d x=>exact xi f o e b.1 b.2
 case makeSlice t l c=>exact Az f o e b.1 b.2.1 b.2.2
 case call c =>
  split at b
  .rename_i x y t u g h i;exact xB f o g h i e b.1 b.2.1 b.2.2
  .rename_i x p g h;exact Ka f o g h e b.1 b.2
  .rename_i x y t u g h i;exact I7 f o g h i e b.1 b.2.1 b.2.2
  .rename_i x y t u g h i;exact Fo f o e g h i b.1 b.2.1 b.2.2
  .exact b.elim
 case makeMap t r =>
  cases r with
  |none=>exact Er f o e b
  |some _=>exact b.elim
 case mapUpdate t m k x=>exact znR f o (.inl e) b.1 b.2.1 b.2.2.1 b.2.2.2
 case insert t m k x=>exact znR f o (.inr e) b.1 b.2.1 b.2.2.1 b.2.2.2
end
def iO(P:Program)(v:Nat->Bool)(E:ey)(H:List Ob)(t:TypeId)(x y:Va):Option Ev:=match x with
 |.el o e i b=>match eD H o with
  |.nst f T c k p a s=>some (match eB P t with
   |some l=>match y with
    |.nv q j=>⟨.top,E,H.set o (.nst f T c k p a none),q=p/\j=i/\s=some i/\b=k/\e=c/\l.size=1/\i<a.length⟩
    |.buf m=>match eD H m,eD H p with
     |.buf w u r,.inn n g d=>⟨.top,fZ (fun q=>!(q == p)&&!(q == m)) E,(((fF (fun q=>!(q == p)&&!(q == m)) H).set o (.nst f T c k p a none)).set p (.inn n g (d.set i r))).set m .gone,
       v p=false/\v m=false/\w=n/\u=g/\b=k/\e=c/\s=none/\l.size=1/\i<a.length/\m≠p/\m≠o/\o≠p⟩
     |_,_=>fq
    |y=>match fe (iD y)with
     |some h=>⟨.top,E,H.set o (.nst f T c k p (a.set i (FO e (a.getD i []) b h)) s),y.isCell=true/\uC (iD y)/\h.length=l.size/\e=c/\i<a.length/\b+h.length<=e/\(a.getD i []).length=e/\(b+h.length<=k∨k<b)⟩
     |none=>fq
   |none=>fq)
  |_=>none
 |.ne p e i j b=>some (match eB P t with
  |some l=>match eD H p with
   |.inn T c d=>match fe (iD y)with
    |some h=>⟨.top,E,H.set p (.inn T c (d.set i ((d.getD i []).set j (FO e ((d.getD i []).getD j []) b h)))),y.isCell=true/\uC (iD y)/\h.length=l.size/\e=c/\j<(d.getD i []).length/\b+h.length<=e⟩
    |none=>fq
   |_=>fq
  |none=>fq)
 |_=>none
def xC(P:Program)(m:Nat->Bool)(E:ey)(H:List Ob)(t u:TypeId)(w x:Va):Option Ev:=match w with
 |.nv q i=>some (match zB P t,FU H x,eD H q with
  |.slice e c y z,some a,.inn n g d=>match eD H (q-1)with
   |.nst f T r k p b A=>⟨.nv q i,fZ (· != q) E,((fF (· != q) H).set (q-1) (.nst f T r k p b (some i))).set q (.inn n g (d.set i (d.getD i []++a))),
     m q=false/\q≠0/\p=q/\A=none/\e=n/\c=g/\z.length=c/\y<=512/\(d.getD i []++a).length<=eE/\i<d.length/\uu P u c e x a⟩
   |_=>fq
  |_,_,_=>fq)
 |.buf o=>match eD H o with
  |.nst f T r k p b A=>some (match zB P t,x with
   |.slice e c y z,.buf j=>match eD H p,eD H j with
    |.inn n g d,.nst _ F B G l h C=>match eD H l with
     |.inn D s v=>⟨.buf o,fZ (fun q=>!(q == o)&&(!(q == p)&&(!(q == j)&&!(q == l)))) E,
       ((((fF (fun q=>!(q == o)&&(!(q == p)&&(!(q == j)&&!(q == l)))) H).set o (.nst f T r k p (b++h) none)).set p (.inn n g (d++v))).set j .gone).set l .gone,
       m o=false/\m p=false/\m j=false/\m l=false/\A=none/\C=none/\e=T/\c=r/\F=T/\B=r/\G=k/\D=n/\s=g/\z.length=c/\y<=512/\(b++h).length<=eE /\
        (match zB P u with
         |.slice _ _ _ _=>True
         |_=>False)/\o≠p/\o≠j/\o≠l/\p≠j/\p≠l/\j≠l⟩
     |_=>fq
    |_,_=>fq
   |_,_=>fq)
  |_=>none
 |_=>none
def Re(ez:List Value)(k:Nat):Option (List Dt):=fe ((ez.map cv).set k (.p (.b false)))
def wd(P:Program)(E:ey)(H:List Ob)(t:TypeId)(l c:Va):Option Ev:=match zB P t with
 |.slice e a f b=>match Tabs.nest e with
  |some (k,g,d)=>some (match Re b k,l,c with
   |some z,.p (.i _ n),.p (.i _ m)=>⟨.buf H.length,E,H++[.nst false e a k (H.length+1) (List.replicate n.toNat z) none,.inn g d (List.replicate n.toNat [])],
     pn b/\b.length=a/\k<a/\b[k]?=some (.slice none 0 0)/\0<=n/\n<=m/\m<=eE/\f<=512⟩
   |_,_,_=>fq)
  |none=>none
 |_=>none
def s5:Nat->List (Nat×Operand)->Option Operand
 |1,[(0,x)]=>some x
 |_,_=>none
theorem j2{n:Nat}{a:List (Nat×Operand)}{x:Operand}(h:s5 n a=some x):n=1/\a=[(0,x)]:=by
 unfold s5 at h;split at h
 .cases h;exact⟨rfl,rfl⟩
 .cases h
def xm(P:Program)(i:Nat->Bool)(E:ey)(H:List Ob)(t:TypeId)(n:Nat)(j:List (Nat×Operand)):Option Ev:=match zB P t with
 |.slice e a _ d=>match Tabs.nest e with
  |some (k,g,c)=>some (match s5 n j with
   |some x=>match opnd E x with
    |.agg cs=>match fe (cs.set k (.p (.b false))),fe (d.map cv)with
     |some z,some _=>match tT cs k with
      |.nils=>⟨.buf H.length,E,H++[.nst false e a k (H.length+1) [z] none,.inn g c [[]]],opOk true E x/\uC cs/\pn d/\d.length=a/\cs.length=a/\k<a/\a<=16777216⟩
      |.buf m=>match eD H m with
       |.buf h f r=>⟨.buf H.length,fZ (· != m) E,(fF (· != m) H).set m .gone++[.nst false e a k (H.length+1) [z] none,.inn g c [r]],
         i m=false/\h=g/\f=c/\opOk true E x/\uC cs/\pn d/\d.length=a/\cs.length=a/\k<a/\a<=16777216⟩
       |_=>fq
      |_=>fq
     |_,_=>fq
    |_=>fq
   |none=>fq)
  |none=>none
 |_=>none
def yh(c d:Prop):Option Ev->Option Ev
 |some r=>some ⟨r.v,r.E,r.H,c/\d/\r.ok⟩
 |none=>none
def tV(c:Call):Option (Operand×Operand×TypeId×TypeId):=match c.callee,c.args.toList,c.argTypes.toList with
 |.builtin .append,[x,y],[t,u]=>some (x,y,t,u)
 |_,_,_=>none
theorem kE{c:Call}{x y:Operand}{t u:TypeId}(h:tV c=some (x,y,t,u)):c.callee=.builtin .append/\c.args.toList=[x,y]/\c.argTypes.toList=[t,u]:=by
 unfold tV at h;split at h
 .rename_i a b d;cases h;exact⟨a,b,d⟩
 .cases h
def g6(P:Program)(kp:Nat->Bool)(E:ey)(H:List Ob):Op->Option Ev
 |.store t x y=>yh (opOk true E x) (opOk true E y) (iO P kp E H t (opnd E x) (opnd E y))
 |.buildSlice t n a=>xm P kp E H t n a.toList
 |.makeSlice t l c=>yh (opOk true E l) (opOk true E c) (wd P E H t (opnd E l) (opnd E c))
 |.call c=>match tV c with
  |some (x,y,t,u)=>yh (opOk true E x) (opOk true E y) (xC P kp E H t u (opnd E x) (opnd E y))
  |none=>none
 |_=>none
def gh(P:Program)(kp:Nat->Bool)(E:ey)(H:List Ob)(op:Op):Ev:=match g6 P kp E H op with
 |some r=>r
 |none=>kP P kp E H op
section
variable {K:Nat->Prop} {G G':List Gh} {H H':List Ob} {w w':World} {f:Nat->Bool} {on:Nat} {tgt:Nat->Nat}
def tX(w d:World)(G e:List Gh)(f:Nat->Bool)(tgt:Nat->Nat)(on:Nat):Prop:=∀(o:Nat) (g:Gh) (b:Nat),e[o]?=some g->own g b ->
 (f o=true/\G[o]?=some g)∨(∃a c,f a=false/\G[a]?=some c/\own c b/\tgt a=o)∨(w.heap.size<=b/\b<d.heap.size/\o=on)
theorem St.modM(a:St K G H w)(N:G'.length=H'.length)(n:Mg f G G')(z:w.heap.size<=w'.heap.size)
  (p:∀b,b<w.heap.size->(∀(o:Nat) (g:Gh),f o=false->G[o]?=some g->¬ own g b)->w'.heap[b]?=w.heap[b]?) (c:tX w w' G G' f tgt on)
  (A:∀(o:Nat) (g:Gh) (x:Ob),G'[o]?=some g->H'[o]?=some x->ObR K w'.heap G' g x∨(f o=true/\∃y,H[o]?=some y/\x=y.prune f)):St K G' H' w':=by
 have I:Mn K K w.heap w'.heap:=⟨fun _ h=>h,fun b hb=>p b (a.kb b hb) fun o g _ i e=>(a.gbo o g b i e).2 hb⟩;refine⟨N,fun b hb=>Nat.lt_of_lt_of_le (a.kb b hb) z,fun o g b i hb=>?_,fun o u g v b i B hb d=>?_,fun o g x i O=>?_,a.tb.mono I⟩
 .rcases c o g b i hb with⟨_,h⟩|⟨j,l,_,h,q,_⟩|⟨P,r,_⟩
  .have:=a.gbo o g b h hb;exact⟨by omega,this.2⟩
  .have:=a.gbo j l b h q;exact⟨by omega,this.2⟩
  .exact⟨r,fun Q=>by have:=a.kb b Q;omega⟩
 .rcases c o g b i hb with⟨C,h⟩|⟨j,l,C,h,q,R⟩|⟨P,r,e⟩ <;> rcases c u v b B d with⟨s,k⟩|⟨D,E,s,k,F,S⟩|⟨W,X,T⟩
  .exact a.ijo o u g v b h k hb d
  .obtain rfl:=a.ijo o D g E b h k hb F;rw[C]at s;cases s
  .have:=(a.gbo o g b h hb).1;omega
  .obtain rfl:=a.ijo j u l v b h k q d;rw[C]at s;cases s
  .obtain rfl:=a.ijo j D l E b h k q F;rw[<-R,<-S]
  .have:=(a.gbo j l b h q).1;omega
  .have:=(a.gbo u v b k d).1;omega
  .have:=(a.gbo D E b k F).1;omega
  .rw[e,T]
 .rcases A o g x i O with h|⟨J,y,L,rfl⟩
  .exact h
  .have t:o<G.length:=by rw[a.len];exact(List.getElem?_eq_some_iff.1 L).1
   have M:=n o _ J (getElem?_eq_getElem t);rw[i]at M;have m:G[o]?=some g:=by rw[getElem?_eq_getElem t];exact M.symm
   exact ObR.prune I n (fun b hb=>p b (a.gbo o g b m hb).1 fun j l r U V=>by
    obtain rfl:=a.ijo o j g l b m U hb V;rw[J]at r;cases r) (a.ob o g y m L)
theorem Ext.modM{m:Nat->Bool}(a:G.length<=G'.length)(d:Mg f G G')(e:w'.os=w.os)(n:Tp w w')(p:w'.output=w.output)(i:w.heap.size<=w'.heap.size)
  (j:∀b,b<w.heap.size->(∀(o:Nat) (g:Gh),f o=false->G[o]?=some g->¬ own g b)->w'.heap[b]?=w.heap[b]?) (c:tX w w' G G' f tgt on) (q:∀o,m o=true->f o=true):Ext m K G w K G' w' where
 os:=e
 tape:=n
 output:=p
 size:=i
 k:=fun _ h=>h
 knew:=fun _ h=>.inl h
 glen:=a
 gown:=fun o g b l hb=>by
  rcases c o g b l hb with⟨_,h⟩|⟨r,s,_,h,t,_⟩|⟨h,_,_⟩
  .exact .inl ⟨o,g,h,hb⟩
  .exact .inl ⟨r,s,h,t⟩
  .exact .inr h
 gsame:=fun o u h v=>d o u (q o h) v
 frame:=fun b hb x=>j b hb fun o g _ l=>x o g l
end
theorem ji{α:Type}{l:List α}{i o:Nat}{x y:α}(h:(l.set i x)[o]?=some y):(o=i/\y=x/\i<l.length)∨(o≠i/\l[o]?=some y):=by
 by_cases e:o=i
 .subst e;have a:=(List.getElem?_eq_some_iff.1 h).1;rw[length_set]at a;rw[getElem?_set_self a]at h;exact .inl ⟨rfl,(Option.some.inj h).symm,a⟩
 .rw[getElem?_set_ne (Ne.symm e)]at h;exact .inr ⟨e,h⟩
theorem Nl{f:Nat->Bool}{H:List Ob}{o:Nat}{x:Ob}(h:(fF f H)[o]?=some x):∃y,H[o]?=some y/\x=y.prune f:=by
 rw[pp,getElem?_map]at h;cases a:H[o]? with
 |none=>rw[a]at h;cases h
 |some y=>rw[a]at h;exact⟨y,rfl,(Option.some.inj h).symm⟩
theorem BX(f:Nat->Bool)(H:List Ob):(fF f H).length=H.length:=by rw[pp,length_map]
theorem Ns{f:Nat->Bool}{H:List Ob}{o:Nat}{x:Ob}(h:H[o]?=some x)(a:x.kept=true):∃y,(fF f H)[o]?=some y/\y.kept=true:=⟨x.prune f,by rw[pp,getElem?_map,h];rfl,dh a⟩
theorem M3(a:Option Addr)(n:Nat):il (.slice a n 0)=none:=by
 cases a with
 |none=>rfl
 |some a=>cases a;rfl
theorem Pa{K:Nat->Prop}{h:Array Obj}{l:Option Nat}{f:Value}{T:TypeId}{sz:Nat}{rows:List (List Dt)}(H:bufR K h l f T sz rows):bufR K h (il f) f T sz rows:=by
 obtain⟨e,m,g,n⟩:=H;refine⟨e,m,g,?_⟩;rcases n with⟨⟨a,c⟩,j,_⟩|⟨b,d,i,o,c,j,p,q,r,s,t,u⟩
 .exact .inl ⟨⟨a,c⟩,j,by rw[c];exact M3 a 0⟩
 .cases d with
  |zero =>
   have k:rows.length=0:=by omega
   exact .inl ⟨⟨some ⟨b,0,none⟩,by rw[c,k]⟩,length_eq_zero_iff.1 k,by rw[c];exact M3 _ _⟩
  |succ d=>exact .inr ⟨b,d+1,i,o,c,by rw[c];rfl,p,q,r,s,t,u⟩
theorem BC{K:Nat->Prop}{h:Array Obj}{e:Option Nat}{f:Value}{T:TypeId}{sz b:Nat}{rows:List (List Dt)}(H:bufR K h e f T sz rows)(hb:il f=some b):e=some b:=by
 obtain⟨_,_,_,g⟩:=H;rcases g with⟨⟨a,d⟩,_,_⟩|⟨k,c,i,l,d,j,_⟩
 .rw[d,M3]at hb;cases hb
 .rw[d]at hb;cases c with
  |zero=>rw[M3]at hb;cases hb
  |succ c=>simp only[il]at hb;rw[j];exact hb
section
variable {K:Nat->Prop} {G:List Gh} {H:List Ob} {w:World} {P:Program}
theorem MZ{t:TypeId}{x:Ti}(M:eB P t=some x){z:Option Nat}{F:Value}{T:TypeId}{sz i off b:Nat}{rows:List (List Dt)}(m:bufR K w.heap z F T sz rows)(j:z=some b)(A:¬ K b)(hi:i<rows.length){y:Value}{ds:List Dt}
  (n:DRs K w.heap y.cells.toList ds) (o:∀c∈y.cells.toList,c.oneCell'=true) (N:ds.length=x.size) (G:off+ds.length<=sz) :
  ∃k,(Instr.storeAt t (.pointer (some ⟨b,i*sz+off,none⟩)) y).run P w=.ok () k/\k.os=w.os/\Tp w k/\k.output=w.output/\k.heap.size=w.heap.size/\(∀i,i≠b->k.heap[i]?=w.heap[i]?) /\
   bufR K k.heap z F T sz (rows.set i (ib (rows.getD i []) off ds)):=by
 obtain⟨p,V,q,O⟩:=m;rcases O with⟨_,_,H⟩|⟨f,r,d,B,Q,I,hb,s,J,R,L,S⟩
 .rw[j]at H;cases H
 obtain rfl:f=b:=by rw[j]at I;exact(Option.some.inj I).symm
 have C:=n.length;have U:=q.length;have a:i*sz+off+y.cells.toList.length<=rows.length*sz:=by have:(i+1)*sz<=rows.length*sz:=Nat.mul_le_mul_right _ hi;rw[Nat.add_mul]at this;omega
 have u:rows.length*sz<=d.size:=Nat.le_trans (Nat.mul_le_mul_right _ J) L;have D:=NO (P:=P) f (i*sz+off) T B y.cells.toList 0 d w hb s (by omega) o;have l:¬ y.cells.size≠x.size:=by simp at C;omega
 have v:(Instr.storeAt t (.pointer (some ⟨f,i*sz+off,none⟩)) y).run P w=.ok () (w.setRow f (ft d.toList (i*sz+off+0) y.cells.toList).toArray):=by simp only[Instr.storeAt,Instr.sureAddr,Sem.run_bind,Sem.run_pure,Result.andThen_ok,storeVar,run_sizeOf w M,if_neg l];exact D
 have E:Mn K K w.heap (w.setRow f (ft d.toList (i*sz+off+0) y.cells.toList).toArray).heap:=⟨fun _ h=>h,fun i hi=>BS w f _ i fun e=>A (e ▸ hi)⟩;refine⟨_,v,rfl,⟨rfl,fun _=>Nat.le_refl _⟩,rfl,by simp,BS w f _,?_⟩;have g:(ft d.toList (i*sz+off) y.cells.toList).length=d.size:=by rw[Gw _ _ _ (by simp at a|-;omega)];simp
 refine⟨by simpa using p,_,DRss.mono E _ _ _ (q.set i off n hi (by omega)),.inr ⟨f,r,_,B,by rw[length_set];exact Q,j,setRow_heap w f _ _ T B hb,?_,by rw[length_set];exact J,R,?_,?_⟩⟩
 .simp only[Nat.add_zero,size_toArray,g];exact s
 .simp only[Nat.add_zero,size_toArray,g];exact L
 .simp only[Nat.add_zero,length_set];rw[<-S,ui _ _ _ (by simp at a|-;omega),ui _ _ _ (by simp at a u|-;omega)];simp only[Array.length_toList];rw[take_append,take_of_length_le (by simp;omega)];simp only[length_append,length_take,Array.length_toList];rw[take_take,drop_take];congr 1
  .rw[Nat.min_eq_left (by omega)]
  .congr 1;simp at a;omega
theorem jO:∀{r:List Dt} {k off:Nat} {ds:List Dt} {x:Dt},(off+ds.length<=k∨k<off)->off+ds.length<=r.length->ib (r.set k x) off ds=(ib r off ds).set k x
 |r,k,0,ds,x,h,a=>by
  have b:ds.length<=k:=by omega
  simp only[ib];rw[set_append_right _ _ b,drop_set,if_neg (by omega)]
 |d::r,0,off+1,ds,x,h,a=>by simp[ib]
 |d::r,k+1,off+1,ds,x,h,a=>by
  simp only[set_cons_succ,ib];rw[jO (by omega) (by simp at a;omega)]
 |[],k,off+1,ds,x,h,a=>by simp at a
theorem rq{k:Nat}:∀{rows:List (List Dt)} {a:List Value} {i:Nat} {b:List Dt},a.length=rows.length->i<rows.length->fT k (rows.set i b) a=(fT k rows a).set i (b.set k (.r (a.getD i undef)))
 |[],_,_,_,_,h=>by simp at h
 |r::rows,v::a,0,b,_,_=>by simp[fT]
 |r::rows,v::a,i+1,b,h,hi=>by simp only[set_cons_succ,fT];rw[rq (by simpa using h) (by simpa using hi)];simp
 |_::_,[],_,_,h,_=>by simp at h
theorem OE{k:Nat}:∀{rows:List (List Dt)} {a:List Value} {i:Nat} {v:Value},a.length=rows.length->i<rows.length->fT k rows (a.set i v)=(fT k rows a).set i ((rows.getD i []).set k (.r v))
 |[],_,_,_,_,h=>by simp at h
 |r::rows,u::a,0,v,_,_=>by simp[fT]
 |r::rows,u::a,i+1,v,h,hi=>by simp only[set_cons_succ,fT];rw[OE (by simpa using h) (by simpa using hi)];simp
 |_::_,[],_,_,h,_=>by simp at h
theorem Pi:∀{r:List Dt} {k:Nat} {d x:Dt},k<r.length->ib (r.set k x) k [d]=r.set k d
 |[],_,_,_,h=>by simp at h
 |y::r,0,d,x,_=>by simp[ib]
 |y::r,k+1,d,x,h=>by simp only[set_cons_succ,ib];rw[Pi (by simpa using h)]
theorem RB{k:Nat}:∀{rows a:List (List Dt)} {c b:List Value},c.length=rows.length->fT k (rows++a) (c++b)=fT k rows c++fT k a b
 |[],_,[],_,_=>rfl
 |r::rows,a,v::c,b,h=>by simp only[cons_append,fT];rw[RB (by simpa using h)]
 |[],_,_::_,_,h=>by simp at h
 |_::_,_,[],_,h=>by simp at h
end
section
variable {C:Cx} {E:ey} {H:List Ob} {a:Act} {w:World}
theorem Ox{c:Nat->Bool}{H:List Ob}(h:gg c H){o:Nat}{x y:Ob}(d:H[o]?=some x)(f:x.kept=true->y.kept=true):gg c (H.set o y):=fun i hi=>by
 obtain⟨z,b,a⟩:=h i hi;by_cases e:i=o
 .subst e;rw[d]at b;cases b;exact⟨y,getElem?_set_self (List.getElem?_eq_some_iff.1 d).1,f a⟩
 .exact⟨z,by rw[getElem?_set_ne (Ne.symm e)];exact b,a⟩
theorem M2{t:TypeId}{x y:Operand}{o:Oper}(b:o.op=.store t x y){w':World}(h:(Instr.storeAt t (a.eval x) (a.eval y)).run C.P w=.ok () w'):(execOp a.eval o).run C.P w=.ok .skip w':=by obtain⟨c,op,d,pos,e,f⟩:=o;cases b;exact MT h
theorem sV(hR:Rel C E H a w)(o:Oper){t:TypeId}{x y:Operand}(ho:o.op=.store t x y)(hx:opOk true E x)(hy:opOk true E y){r:Ev}(hr:iO C.P C.kp E H t (opnd E x) (opnd E y)=some r)(A:r.ok):gT C o a w r.v r.E r.H:=by
 obtain⟨K,G,hX,Y,hE,hd,hn,hkp⟩:=hR;have hvx:=zG hE rfl x hx;have S:=zG hE rfl y hy;unfold iO at hr;split at hr
 .rename_i oo sz i off hox;split at hr;rotate_left
  .cases hr
  rename_i f T sz' k p U st hob;cases hr;rw[hox]at hvx;simp only[VR]at hvx;obtain⟨g,b,n,cap,V,J,hsv,hax⟩:=hvx;have hobS:=zu hob (by simp);obtain⟨h0,hk,R,vs,O,F,W,I⟩:=Y.ob oo g _ V hobS;have Q:=(Y.gb oo g b V J).2;have hol:=BM (k:=k) F;split at A;rotate_left
  .exact A.elim
  rename_i ti ht;split at A
  ·-- the slice that has grown is written where it stood
   rename_i q j hoy;obtain⟨rfl,rfl,rfl,rfl,rfl,hs1,hi⟩:=A;rw[hoy]at S;simp only[VR]at S;obtain⟨gp',ad,m,cp,hgp',hgi,L⟩:=S;obtain rfl:R=gp':=Option.some.inj (O.symm.trans hgp');have hrl:(U.getD j []).length=sz:=by
    obtain⟨_,xs,hxs,_⟩:=I;have:=FZ hxs _ (mem_of_getElem? (AM (k:=off) F hi));simpa using this
   obtain⟨w',B,e1,e2,e3,e4,d,s⟩:=MZ (P:=C.P) (off:=off) ht I J Q (by rw[hol];exact hi) (y:=a.eval y) (ds:=[.r (a.eval y)]) (by
    rw[Gf (by rw[L];rfl)];simp only[DRs,DR];exact⟨_,[],rfl,⟨rfl,by rw[L];rfl⟩,rfl⟩) (by
    rw[Gf (by rw[L];rfl)];intro c hc;simp at hc;rw[hc,L];rfl) (by simp[hs1]) (by simp;omega)
   rw[<-hax]at B;refine⟨undef,w',.inr ⟨M2 ho B,rfl⟩,?_⟩;have M:Mn K K w.heap w'.heap:=⟨fun _ h=>h,fun i hi=>d i fun e=>Q (e ▸ hi)⟩;refine⟨K,G,hX.trans (Ext.modA C.kp V J e1 e2 e3 e4 d),Y.modA V J e4 d ?_,fun m=>VR.grow M (fun _ _ h=>h) _ _ (hE m),hd,hn,Ox hkp hobS id,by simp only[VR]⟩;refine⟨h0,hk,R,vs.set j (a.eval y),O,by simpa using F,⟨by simpa using W.1,fun l _=>?_,W.2.2⟩,?_⟩
   .by_cases e:l=j
    .subst e;rw[getElem?_set_self (by omega),hgi,L]
    .rw[getElem?_set_ne (Ne.symm e)];exact W.2.1 l (by simpa using Ne.symm e)
   .rw[OE F hi,<-Pi (x:=.r (vs.getD j undef)) (by omega),<-Mz F j hi];exact s
  ·-- a slice of the call's own is put there
   rename_i m hoy;split at A;rotate_left
   .exact A.elim
   rename_i Te sze rr Te' sze' ins hom hop;obtain⟨hkpp,hkpm,rfl,rfl,rfl,rfl,rfl,hs1,hi,hmp,hmo,hop'⟩:=A;rw[hoy]at S;simp only[VR]at S;obtain⟨gm,hgm,L,ad,m1,cp,X⟩:=S;have homS:=zu hom (by simp);have hopS:=zu hop (by simp);have hmb:=Y.ob m gm _ hgm homS;obtain⟨hpb,hpl,hpi,hpd⟩:=Y.ob p R _ O hopS;have hrl:(U.getD i []).length=sz:=by
    obtain⟨_,xs,hxs,_⟩:=I;have:=FZ hxs _ (mem_of_getElem? (AM (k:=off) F hi));simpa using this
   obtain⟨w',B,e1,e2,e3,e4,d,s⟩:=MZ (P:=C.P) (off:=off) ht I J Q (by rw[hol];exact hi) (y:=a.eval y) (ds:=[.r (a.eval y)]) (by
    rw[Gf (by rw[L,X];rfl)];simp only[DRs,DR];exact⟨_,[],rfl,⟨rfl,by rw[L,X];rfl⟩,rfl⟩) (by
    rw[Gf (by rw[L,X];rfl)];intro c hc;simp at hc;rw[hc,L,X];rfl) (by simp[hs1]) (by simp;omega)
   rw[<-hax]at B;refine⟨undef,w',.inr ⟨M2 ho B,rfl⟩,?_⟩;have M:Mn K K w.heap w'.heap:=⟨fun _ h=>h,fun i hi=>d i fun e=>Q (e ▸ hi)⟩;have hS1:St K G (H.set oo .gone) w':=Y.modA V J e4 d trivial;have hpL:p<G.length:=(List.getElem?_eq_some_iff.1 O).1;have hmL:m<G.length:=(List.getElem?_eq_some_iff.1 hgm).1
   -- the new ghosts
   let g1:Gh:=⟨none,R.sv,R.inn.set i gm.sv⟩;let G':=(G.set p g1).set m ⟨none,undef,[]⟩;have hG'm:G'[m]?=some ⟨none,undef,[]⟩:=getElem?_set_self (by simpa using hmL);have hG'p:G'[p]?=some g1:=by
    show((G.set p g1).set m _)[p]?=_;rw[getElem?_set_ne hmp,getElem?_set_self hpL]
   have hcs:∀{N:Nat} {g':Gh},G'[N]?=some g'->(N=m/\g'=⟨none,undef,[]⟩)∨(N=p/\g'=g1)∨(N≠p/\N≠m/\G[N]?=some g'):=by
    intro N g' h;rcases ji h with⟨rfl,rfl,_⟩|⟨e,h⟩
    .exact .inl ⟨rfl,rfl⟩
    .rcases ji h with⟨rfl,rfl,_⟩|⟨e',h⟩
     .exact .inr (.inl ⟨rfl,rfl⟩)
     .exact .inr (.inr ⟨e',e,h⟩)
   have hMg:Mg (fun q=>!(q == p)&&!(q == m)) G G':=fun N g' D hg'=>by
    simp only[Bool.and_eq_true,Bool.not_eq_true',beq_eq_false_iff_ne]at D;show((G.set p g1).set m _)[N]?=_;rw[getElem?_set_ne (Ne.symm D.2),getElem?_set_ne (Ne.symm D.1)];exact hg'
   have hil:i<R.inn.length:=by rw[<-W.1,F];exact hi
   have hown:tX w' w' G G' (fun q=>!(q == p)&&!(q == m)) (fun _=>p) 0:=by
    intro N g' b' hg' s;rcases hcs hg' with⟨_,rfl⟩|⟨rfl,rfl⟩|⟨h1,h2,h3⟩
    .exact(uh s).elim
    .rcases s with s|⟨v,Z,hvb⟩
     .cases s
     .rcases mem_or_eq_of_mem_set Z with Z|rfl
      .exact .inr (.inl ⟨N,R,by simp,O,.inr ⟨v,Z,hvb⟩,rfl⟩)
      .exact .inr (.inl ⟨m,gm,by simp,hgm,.inl (BC hmb hvb),rfl⟩)
    .exact .inl ⟨by simp[h1,h2],h3⟩
   have hS2:St K G' ((((fF (fun q=>!(q == p)&&!(q == m)) H).set oo (.nst f T sz off p U none)).set p (.inn Te sze (ins.set i rr))).set m .gone) w':=by
    refine hS1.modM (tgt:=fun _=>p) (on:=0) (f:=fun q=>!(q == p)&&!(q == m)) ?_ hMg (Nat.le_refl _) (fun _ _ _=>rfl) hown fun N g' x' hg' hx'=>?_
    .show((G.set p g1).set m _).length=_;simp[BX,Y.len]
    .rcases ji hx' with⟨rfl,rfl,_⟩|⟨n1,hx'⟩
     .exact .inl trivial
     rcases ji hx' with⟨rfl,rfl,_⟩|⟨n2,hx'⟩
     .rw[hG'p]at hg';cases hg';refine .inl ⟨rfl,by show(R.inn.set i gm.sv).length=_;simpa using hpl,fun j v rows' Z hr'=>?_,fun j j' v u b' Z hu hb1 hb2=>?_⟩
      .rcases ji (show(R.inn.set i gm.sv)[j]?=some v from Z)with⟨rfl,rfl,_⟩|⟨n3,hv2⟩
       .rw[getElem?_set_self (by omega)]at hr';cases hr';have:=Pa hmb;exact bufR.keep M (fun b' s=>d b' fun e=>hmo (Y.inj m oo gm g b' hgm V (BC hmb s) (by rw[J,e]))) this
       .rw[getElem?_set_ne (Ne.symm n3)]at hr';exact bufR.keep M (fun b' s=>d b' fun e=>hop' (Y.ijo oo N g R b' V O (.inl (by rw[J,e])) (.inr ⟨v,mem_of_getElem? hv2,s⟩))) (hpi j v rows' hv2 hr')
      .rcases ji (show(R.inn.set i gm.sv)[j]?=some v from Z)with⟨rfl,rfl,_⟩|⟨n3,hv2⟩ <;> rcases ji (show(R.inn.set _ gm.sv)[j']?=some u from hu)with⟨rfl,rfl,_⟩|⟨n4,hu2⟩
       .rfl
       .exact absurd (Y.ijo m N gm R b' hgm O (.inl (BC hmb hb1)) (.inr ⟨u,mem_of_getElem? hu2,hb2⟩)) n1.symm
       .exact absurd (Y.ijo m N gm R b' hgm O (.inl (BC hmb hb2)) (.inr ⟨v,mem_of_getElem? hv2,hb1⟩)) n1.symm
       .exact hpd j j' v u b' hv2 hu2 hb1 hb2
     rcases ji hx' with⟨rfl,rfl,_⟩|⟨n3,hx'⟩
     .rcases hcs hg' with⟨e,_⟩|⟨e,_⟩|⟨_,_,h3⟩
      .exact absurd e n1
      .exact absurd e n2
      rw[V]at h3;cases h3;refine .inl ⟨h0,hk,g1,vs.set i gm.sv,hG'p,by simpa using F,⟨by show _=(R.inn.set i gm.sv).length;simpa using W.1,fun l _=>?_,fun v Z=>?_⟩,?_⟩
      .show _=(R.inn.set i gm.sv)[l]?;by_cases e:l=i
       .subst e;rw[getElem?_set_self (by omega),getElem?_set_self hil]
       .rw[getElem?_set_ne (Ne.symm e),getElem?_set_ne (Ne.symm e)];exact W.2.1 l (by simp)
      .rcases mem_or_eq_of_mem_set (show v∈R.inn.set i gm.sv from Z)with Z|rfl
       .exact W.2.2 v Z
       .exact⟨_,_,_,X⟩
      .rw[OE F hi,<-L,<-Pi (x:=.r (vs.getD i undef)) (by omega),<-Mz F i hi];exact s
     obtain⟨y',hy',rfl⟩:=Nl hx';exact .inr ⟨by simp[n1,n2],y',by rw[getElem?_set_ne (Ne.symm n3)];exact hy',rfl⟩
   refine⟨K,G',(hX.trans (Ext.modA C.kp V J e1 e2 e3 e4 d)).trans (Ext.modM (by show G.length<=((G.set p g1).set m _).length;simp) hMg rfl ⟨rfl,fun _=>Nat.le_refl _⟩ rfl (Nat.le_refl _) (fun _ _ _=>rfl) hown fun N D=>?_),hS2,fun m'=>?_,hd,hn,fun N D=>?_,by simp only[VR]⟩
   .simp only[Bool.and_eq_true,Bool.not_eq_true',beq_eq_false_iff_ne];exact⟨fun e=>(by subst e;rw[hkpp]at D;cases D),fun e=>(by subst e;rw[hkpm]at D;cases D)⟩
   .rw[sH];exact VR.prune M hMg _ _ (hE m')
   .have hop2:N≠p:=fun e=>by subst e;rw[hkpp]at D;cases D
    have hom2:N≠m:=fun e=>by subst e;rw[hkpm]at D;cases D
    obtain⟨z,hz,hkz⟩:=hkp N D;rw[getElem?_set_ne (Ne.symm hom2),getElem?_set_ne (Ne.symm hop2)];by_cases e:N=oo
    .subst e;rw[hobS]at hz;cases hz;exact⟨_,getElem?_set_self (by rw[BX,<-Y.len];exact(List.getElem?_eq_some_iff.1 V).1),hkz⟩
    .rw[getElem?_set_ne (Ne.symm e)];exact Ns hz hkz
  ·-- data
   rename_i hnv hnb;split at A;rotate_left
   .exact A.elim
   rename_i ds hds;obtain⟨hcell,hone,hsz,rfl,hi,hfit,hrl,hko⟩:=A;have hcv:=BJ S hcell;have hdd:=pj hcv hds;obtain⟨w',B,e1,e2,e3,e4,d,s⟩:=MZ (P:=C.P) (off:=off) ht I J Q (by rw[hol];exact hi) hdd (HO hcv hone) hsz hfit;rw[<-hax]at B;refine⟨undef,w',.inr ⟨M2 ho B,rfl⟩,?_⟩;have M:Mn K K w.heap w'.heap:=⟨fun _ h=>h,fun i hi=>d i fun e=>Q (e ▸ hi)⟩;refine⟨K,G,hX.trans (Ext.modA C.kp V J e1 e2 e3 e4 d),Y.modA V J e4 d ?_,fun m=>VR.grow M (fun _ _ h=>h) _ _ (hE m),hd,hn,Ox hkp hobS id,by simp only[VR]⟩;refine⟨by simpa using h0,hk,R,vs,O,by simpa using F,W,?_⟩;rw[rq F hi,Pg hrl,<-jO hko (by omega),<-Mz F i hi];exact s
 ·-- a cell of a slice that another slice holds
  rename_i p sz i j off hox;cases hr;split at A;rotate_left
  .exact A.elim
  rename_i ti ht;split at A;rotate_left
  .exact A.elim
  rename_i T sz' ins hop;split at A;rotate_left
  .exact A.elim
  rename_i ds hds;obtain⟨hcell,hone,hsz,rfl,hj,hfit⟩:=A;rw[hox]at hvx;simp only[VR]at hvx;obtain⟨g,b,n,cap,V,hgi,hax⟩:=hvx;have hopS:=zu hop (by simp);obtain⟨hpb,hpl,hpi,hpd⟩:=Y.ob p g _ V hopS;have hil:=(List.getElem?_eq_some_iff.1 hgi).1;have hins:ins[i]?=some (ins.getD i []):=by rw[getElem?_eq_getElem (by omega),getD_eq_getElem?_getD,getElem?_eq_getElem (by omega)];rfl
  have hob:own g b:=.inr ⟨_,mem_of_getElem? hgi,rfl⟩;have Q:=(Y.gbo p g b V hob).2;have hcv:=BJ S hcell;have hdd:=pj hcv hds;have I:=hpi i _ _ hgi hins;have hrl:((ins.getD i []).getD j []).length=sz:=by obtain⟨_,xs,hxs,_⟩:=I;exact FZ hxs _ (by rw[getD_eq_getElem?_getD (l:=ins.getD i []),getElem?_eq_getElem hj];exact getElem_mem hj)
  obtain⟨w',B,e1,e2,e3,e4,d,s⟩:=MZ (P:=C.P) (off:=off) ht I rfl Q hj hdd (HO hcv hone) hsz hfit;rw[<-hax]at B;refine⟨undef,w',.inr ⟨M2 ho B,rfl⟩,?_⟩;have M:Mn K K w.heap w'.heap:=⟨fun _ h=>h,fun i hi=>d i fun e=>Q (e ▸ hi)⟩;refine⟨K,G,hX.trans (Ext.modO C.kp V hob e1 e2 e3 e4 d),Y.modO V hob e4 d ?_,fun m=>VR.grow M (fun _ _ h=>h) _ _ (hE m),hd,hn,Ox hkp hopS (fun h=>by cases h),by simp only[VR]⟩;refine⟨hpb,by simpa using hpl,fun l v U Z hr=>?_,hpd⟩;by_cases e:l=i
  .subst e;rw[getElem?_set_self (by omega)]at hr;cases hr;rw[hgi]at Z;cases Z;rw[Pg hrl];exact s
  .rw[getElem?_set_ne (Ne.symm e)]at hr;exact bufR.keep M (fun b' s=>d b' fun e'=>e (hpd l i v _ b' Z hgi s (by rw[e'];rfl))) (hpi l v U Z hr)
 .cases hr
theorem y2{K:Nat->Prop}{o:Option Nat}{k:Value}{T:TypeId}{sz:Nat}{rows:List (List Dt)}(d:bufR K w.heap o k T sz rows){i:TypeInfo}(hi:i.size=sz):∃c,pb C.P w i.size k rows.length c/\DRss K w.heap sz c rows:=by
 obtain⟨l,m,e,p⟩:=d;rcases p with⟨⟨a,rfl⟩,rfl,_⟩|⟨b,q,g,r,rfl,u,s,x,y,z,A,t⟩
 .exact⟨[],⟨fun _=>rfl,fun _ _=>by cases a <;> simp[Builtin.firstCells,loadCells,loadCellsFrom],by simp⟩,by simp[DRss]⟩
 .have n:=e.length;refine⟨m,⟨fun _=>rfl,fun w' h=>?_,by rw[n,hi]⟩,e⟩;refine run_firstCells_some (P:=C.P) w' i.size rows.length _ _ _ m (by rw[n,hi]) (fun j v f=>?_);rw[mz,cell_of_row w' b (0+j) g T r (by rw[h];exact s),Nat.zero_add];rw[<-t,getElem?_take]at f;split at f
  .rw[<-Array.getElem?_toList];exact f
  .cases f
theorem kK{a inn:List Value}(h:Mc none a inn):a=inn:=ext_getElem? fun j=>h.2.1 j (by simp)
theorem MW{t e:TypeId}{esz eb:Nat}{ez:List Value}(g:zB C.P t=.slice e esz eb ez):C.P.underlying t=some (.slice e)/\∃i z,C.P.info? e=some i/\i.size=esz/\i.bytes=eb/\i.zero=some z/\z.cells.toList=ez:=by obtain⟨m,h,c⟩:=zL g (by simp);obtain⟨j,⟨i,b,d,f⟩,a⟩:=jh h c;unfold xR at a;rw[b]at a;simp at a;obtain⟨z,k,l⟩:=a;exact⟨j,i,z,b,d,f,k,l⟩
theorem Bm(hR:Rel C E H a w)(o:Oper){c:Call}{x y:Operand}{t u:TypeId}(h1:c.callee=.builtin .append)(h2:c.args.toList=[x,y])(h3:c.argTypes.toList=[t,u])(ho:o.op=.call c)(hx:opOk true E x)(hy:opOk true E y)
  {r:Ev} (Z:xC C.P C.kp E H t u (opnd E x) (opnd E y)=some r) (O:r.ok):gT C o a w r.v r.E r.H:=by
 obtain⟨K,G,hX,M,hE,hd,hn,hkp⟩:=hR;have hvx:=zG hE rfl x hx;have hvy:=zG hE rfl y hy;unfold xC at Z;split at Z
 ·-- to a slice that another slice holds
  rename_i q i hox;cases Z;split at O;rotate_left
  .exact O.elim
  rename_i e esz eb ez rows' Te sze ins hk hsrc hop;split at O;rotate_left
  .exact O.elim
  rename_i f T sz k p U st hob;obtain⟨hkq,hq0,rfl,rfl,rfl,rfl,hel,heb,V,hil,hso⟩:=O;rw[hox]at hvx;simp only[VR]at hvx;obtain⟨B,ad,n0,cap,D,hgi,hax⟩:=hvx;obtain⟨hu,ti,z,hi1,hi2,hi3,GV,hi5⟩:=MW hk;have hopS:=zu hop (by simp);have hobS:=zu hob (by simp);obtain⟨hpb,hpl,hpi,hpd⟩:=M.ob p B _ D hopS;obtain⟨g,hg,h0,hk0,gp',vs,hgp',hvl,hst,hbuf⟩:=M.ghost hobS;obtain rfl:B=gp':=Option.some.inj (D.symm.trans hgp');have hgl:=(List.getElem?_eq_some_iff.1 hgi).1;have hins:ins[i]?=some (ins.getD i []):=by rw[getElem?_eq_getElem (by omega),getD_eq_getElem?_getD,getElem?_eq_getElem (by omega)];rfl
  have hib:=hpi i _ _ hgi hins;have X:∀b,il (.slice ad n0 cap)=some b->own B b:=fun b hb=>.inr ⟨_,mem_of_getElem? hgi,hb⟩;obtain⟨news,d,hdu,hdd,hsr,hdr⟩:=Bt (C:=C) M hvy hsrc hso hi2;have hby:(ins.getD i []++rows').length*ti.bytes<=140737488355328:=by rw[hi3];have:=Nat.mul_le_mul V heb;unfold eE at this;omega
  obtain⟨sv,w',bn,e1,⟨sa,sn,sc,e2⟩,e3,e4,e5,e6,e7,e8,e9⟩:=mj (P:=C.P) M.kb (fun b hb=>M.gbo p B b D (X b hb)) hib (t:=t) (u:=u) (ty:=o.type) hu hdu hdd hi1 hi2 GV (by rw[<-hel,<-hi5];simp) hsr hdr.ones hdr rfl V hby;refine⟨sv,w',.inl (CP h1 h2 h3 ho (by rw[hax];exact e1)),?_⟩;let g1:Gh:=⟨B.blk,B.sv,B.inn.set i sv⟩;have hpL:p<G.length:=(List.getElem?_eq_some_iff.1 D).1;have W:(G.set p g1)[p]?=some g1:=getElem?_set_self hpL;have hMg:Mg (· != p) G (G.set p g1):=fun m R n A=>by rw[getElem?_set_ne (by simpa using Ne.symm (by simpa using n))];exact A
  have hfr:∀b,b<w.heap.size->(∀(m:Nat) (R:Gh),(m != p)=false->G[m]?=some R->¬ own R b)->w'.heap[b]?=w.heap[b]?:=fun b hb hno=>e7 b hb fun e=>hno p B (by simp) D (X b e);have hMn:Mn K K w.heap w'.heap:=⟨fun _ h=>h,fun b hb=>hfr b (M.kb b hb) fun m R _ A e=>(M.gbo m R b A e).2 hb⟩;have hne:p-1≠p:=by omega
  have hown:tX w w' G (G.set p g1) (· != p) (fun q=>q) p:=by
   intro m R b A N;rcases ji A with⟨rfl,rfl,_⟩|⟨n1,h⟩
   .rcases N with N|⟨v,J,hvb⟩
    .exact .inr (.inl ⟨m,B,by simp,D,.inl N,rfl⟩)
    .rcases mem_or_eq_of_mem_set (show v∈B.inn.set i sv from J)with J|rfl
     .exact .inr (.inl ⟨m,B,by simp,D,.inr ⟨v,J,hvb⟩,rfl⟩)
     .have S:=BC e9 hvb;rcases(e8 b S).2 with h|h
      .exact .inr (.inl ⟨m,B,by simp,D,X b h,rfl⟩)
      .exact .inr (.inr ⟨h,(e8 b S).1,rfl⟩)
   .exact .inl ⟨by simpa using n1,h⟩
  have hinn:∀{j:Nat} {v:Value},g1.inn[j]?=some v->(j=i/\v=sv)∨(j≠i/\B.inn[j]?=some v):=fun h=>by
   rcases ji (show(B.inn.set i sv)[_]?=some _ from h)with⟨h1,h2,_⟩|h
   .exact .inl ⟨h1,h2⟩
   .exact .inr h
  have hsep:∀{j:Nat} {v:Value} {b:Nat},j≠i->B.inn[j]?=some v->il v=some b->bn≠some b:=fun {j v b} hj J hb hbn=>by
   rcases(e8 b hbn).2 with h|h
   .exact hj (hpd j i v _ b J hgi hb h)
   .have:=(M.gbo p B b D (.inr ⟨v,mem_of_getElem? J,hb⟩)).1;omega
  have hS2:St K (G.set p g1) (((fF (· != p) H).set (p-1) (.nst f T sz k p U (some i))).set p (.inn e esz (ins.set i (ins.getD i []++rows')))) w':=by
   refine M.modM (tgt:=fun q=>q) (on:=p) (f:=(· != p)) (by simp[BX,M.len]) hMg e6 hfr hown fun m R x' A L=>?_;rcases ji L with⟨rfl,rfl,_⟩|⟨n1,L⟩
   .rw[W]at A;cases A;refine .inl ⟨hpb,by show(B.inn.set i sv).length=_;simpa using hpl,fun j v rr J Z=>?_,fun j j' v u' b J hu' S hb2=>?_⟩
    .rcases hinn J with⟨rfl,rfl⟩|⟨n2,I⟩
     .rw[getElem?_set_self (by omega)]at Z;cases Z;exact Pa e9
     .rw[getElem?_set_ne (Ne.symm n2)]at Z;exact bufR.keep hMn (fun b hb=>e7 b (M.gbo m B b D (.inr ⟨v,mem_of_getElem? I,hb⟩)).1 fun h=>n2 (hpd j i v _ b I hgi hb h)) (hpi j v rr I Z)
    .rcases hinn J with⟨rfl,rfl⟩|⟨n2,I⟩ <;> rcases hinn hu' with⟨rfl,rfl⟩|⟨n3,hu2⟩
     .rfl
     .exact absurd (BC e9 S) (hsep n3 hu2 hb2)
     .exact absurd (BC e9 hb2) (hsep n2 I S)
     .exact hpd j j' v u' b I hu2 S hb2
   rcases ji L with⟨rfl,rfl,_⟩|⟨n2,L⟩
   .rw[getElem?_set_ne (Ne.symm hne),hg]at A;cases A;refine .inl ⟨h0,hk0,g1,vs,W,hvl,⟨by show _=(B.inn.set i sv).length;simpa using hst.1,fun l hl=>?_,fun v J=>?_⟩,bufR.keep hMn (fun b hb=>e7 b (M.gb _ g b hg hb).1 fun h=>hne (M.ijo _ p g B b hg D (.inl hb) (X b h))) hbuf⟩
    .show _=(B.inn.set i sv)[l]?;rw[getElem?_set_ne (fun e=>hl (by rw[e]))];exact hst.2.1 l (by simp)
    .rcases mem_or_eq_of_mem_set (show v∈B.inn.set i sv from J)with J|rfl
     .exact hst.2.2 v J
     .exact⟨_,_,_,e2⟩
   obtain⟨y',hy',rfl⟩:=Nl L;exact .inr ⟨by simpa using n1,y',hy',rfl⟩
  refine⟨K,G.set p g1,hX.trans (Ext.modM (by simp) hMg e3 e4 e5 e6 hfr hown fun m n=>?_),hS2,fun m'=>?_,hd,hn,fun m n=>?_,?_⟩
  .simp only[bne_iff_ne,ne_eq];exact fun e=>by subst e;rw[hkq]at n;cases n
  .rw[sH];exact VR.prune hMn hMg _ _ (hE m')
  .have hop2:m≠p:=fun e=>by subst e;rw[hkq]at n;cases n
   obtain⟨z',hz',hkz⟩:=hkp m n;rw[getElem?_set_ne (Ne.symm hop2)];by_cases e:m=p-1
   .subst e;rw[hobS]at hz';cases hz';exact⟨_,getElem?_set_self (by rw[BX];exact(List.getElem?_eq_some_iff.1 hobS).1),hkz⟩
   .rw[getElem?_set_ne (Ne.symm e)];exact Ns hz' hkz
  .simp only[VR];exact⟨g1,sa,sn,sc,W,by show(B.inn.set i sv)[i]?=_;rw[getElem?_set_self hgl,e2],e2⟩
 .rename_i oo hox;split at Z;rotate_left
  .cases Z
  rename_i f T sz k p U st hob;cases Z;split at O;rotate_left
  .exact O.elim
  rename_i e esz eb ez o2 hk hoy;split at O;rotate_left
  .exact O.elim
  rename_i Te sze ins f2 T2 sz2 k2 p2 Y st2 hop hob2;split at O;rotate_left
  .exact O.elim
  rename_i Te2 sze2 ins2 hop2;obtain⟨hko,hkpp,hko2,hkp2,rfl,rfl,rfl,rfl,rfl,rfl,rfl,rfl,rfl,hel,heb,V,hku,n1,n2,n3,n4,n5,n6⟩:=O;rw[hox]at hvx;rw[hoy]at hvy;simp only[VR]at hvx hvy;obtain⟨g,hg,hax,_⟩:=hvx;obtain⟨g2,hg2,hay,_⟩:=hvy;obtain⟨hu,ti,z,hi1,hi2,hi3,GV,hi5⟩:=MW hk;have hopS:=zu hop (by simp);have hobS:=zu hob (by simp);have hop2S:=zu hop2 (by simp);have hob2S:=zu hob2 (by simp);obtain⟨h0,hk0,B,vs,D,hvl,hst,hbuf⟩:=M.ob oo g _ hg hobS;obtain⟨h0',hk0',Q,vs2,hgp2,hvl2,hst2,hbuf2⟩:=M.ob o2 g2 _ hg2 hob2S;obtain⟨hpb,hpl,hpi,hpd⟩:=M.ob p B _ D hopS;obtain⟨hpb2,hpl2,hpi2,hpd2⟩:=M.ob p2 Q _ hgp2 hop2S;have hov:=BM (k:=k2) hvl;have hov2:=BM (k:=k2) hvl2;obtain⟨d,hdu,hdd⟩:∃d,C.P.underlying u=some d/\((∃k,d=.slice k)∨d=.string):=by
   split at hku
   .rename_i k' _ _ _ hku';obtain⟨ti',ht',hk''⟩:=zL hku' (by simp);exact⟨_,(jh ht' hk'').1,.inl ⟨_,rfl⟩⟩
   .exact hku.elim
  obtain⟨news,hsr,hdr⟩:=y2 (C:=C) hbuf2 (i:=ti) hi2;have hlen:(fT k2 U vs++fT k2 Y vs2).length=(U++Y).length:=by simp[hov,hov2]
  have hby:(fT k2 U vs++fT k2 Y vs2).length*ti.bytes<=140737488355328:=by rw[hi3,hlen];have:=Nat.mul_le_mul V heb;unfold eE at this;omega
  obtain⟨sv,w',bn,e1,⟨sa,sn,sc,e2⟩,e3,e4,e5,e6,e7,e8,e9⟩:=mj (P:=C.P) M.kb (fun b hb=>M.gb oo g b hg hb) hbuf (t:=t) (u:=u) (ty:=o.type) hu hdu hdd hi1 hi2 GV (by rw[<-hel,<-hi5];simp) hsr hdr.ones hdr rfl (by rw[hlen];exact V) hby;refine⟨sv,w',.inl (CP h1 h2 h3 ho (by rw[hax,hay];exact e1)),?_⟩;let F:Nat->Bool:=fun q=>!(q == oo)&&(!(q == p)&&(!(q == o2)&&!(q == p2)));have hF:∀q,F q=true↔q≠oo/\q≠p/\q≠o2/\q≠p2:=fun q=>by simp[F]
  let gA:Gh:=⟨bn,sv,[]⟩;let gB:Gh:=⟨none,B.sv,B.inn++Q.inn⟩;let s:Gh:=⟨none,undef,[]⟩;let G':=(((G.set oo gA).set p gB).set o2 s).set p2 s;have L1:oo<G.length:=(List.getElem?_eq_some_iff.1 hg).1;have L2:p<G.length:=(List.getElem?_eq_some_iff.1 D).1;have hG'o:G'[oo]?=some gA:=by
   show((((G.set oo gA).set p gB).set o2 s).set p2 s)[oo]?=_;rw[getElem?_set_ne (Ne.symm n3),getElem?_set_ne (Ne.symm n2),getElem?_set_ne (Ne.symm n1),getElem?_set_self L1]
  have W:G'[p]?=some gB:=by
   show((((G.set oo gA).set p gB).set o2 s).set p2 s)[p]?=_;rw[getElem?_set_ne (Ne.symm n5),getElem?_set_ne (Ne.symm n4),getElem?_set_self (by simpa using L2)]
  have hcs:∀{m:Nat} {R:Gh},G'[m]?=some R->(m=p2/\R=s)∨(m=o2/\R=s)∨(m=p/\R=gB)∨(m=oo/\R=gA)∨(F m=true/\G[m]?=some R):=by
   intro m R h;rcases ji h with⟨rfl,rfl,_⟩|⟨m1,h⟩
   .exact .inl ⟨rfl,rfl⟩
   rcases ji h with⟨rfl,rfl,_⟩|⟨m2,h⟩
   .exact .inr (.inl ⟨rfl,rfl⟩)
   rcases ji h with⟨rfl,rfl,_⟩|⟨m3,h⟩
   .exact .inr (.inr (.inl ⟨rfl,rfl⟩))
   rcases ji h with⟨rfl,rfl,_⟩|⟨m4,h⟩
   .exact .inr (.inr (.inr (.inl ⟨rfl,rfl⟩)))
   .exact .inr (.inr (.inr (.inr ⟨(hF m).2 ⟨m4,m3,m2,m1⟩,h⟩)))
  have hMg:Mg F G G':=fun m R n A=>by
   obtain⟨m1,m2,m3,m4⟩:=(hF m).1 n;show((((G.set oo gA).set p gB).set o2 s).set p2 s)[m]?=_;rw[getElem?_set_ne (Ne.symm m4),getElem?_set_ne (Ne.symm m3),getElem?_set_ne (Ne.symm m2),getElem?_set_ne (Ne.symm m1)];exact A
  have hFo:F oo=false:=by simp[F]
  have hFp:F p=false:=by simp[F]
  have hFp2:F p2=false:=by simp[F]
  have hfr:∀b,b<w.heap.size->(∀(m:Nat) (R:Gh),F m=false->G[m]?=some R->¬ own R b)->w'.heap[b]?=w.heap[b]?:=fun b hb hno=>e7 b hb fun e=>hno oo g hFo hg (.inl e);have hMn:Mn K K w.heap w'.heap:=⟨fun _ h=>h,fun b hb=>hfr b (M.kb b hb) fun m R _ A e=>(M.gbo m R b A e).2 hb⟩;have hown:tX w w' G G' F (fun q=>if q=p2 then p else q) oo:=by
   intro m R b A N;rcases hcs A with⟨_,rfl⟩|⟨_,rfl⟩|⟨rfl,rfl⟩|⟨rfl,rfl⟩|⟨h1',h2'⟩
   .exact(uh N).elim
   .exact(uh N).elim
   .rcases N with N|⟨v,J,hvb⟩
    .cases N
    .rcases mem_append.1 J with J|J
     .exact .inr (.inl ⟨m,B,hFp,D,.inr ⟨v,J,hvb⟩,if_neg n5⟩)
     .exact .inr (.inl ⟨p2,Q,hFp2,hgp2,.inr ⟨v,J,hvb⟩,if_pos rfl⟩)
   .rcases N with N|⟨v,J,_⟩
    .rcases(e8 b N).2 with h|h
     .exact .inr (.inl ⟨m,g,hFo,hg,.inl h,if_neg n3⟩)
     .exact .inr (.inr ⟨h,(e8 b N).1,rfl⟩)
    .cases J
   .exact .inl ⟨h1',h2'⟩
  have kin:∀{q:Nat} {gq:Gh} {v:Value} {b:Nat},q≠oo->G[q]?=some gq->v∈gq.inn->il v=some b->w'.heap[b]?=w.heap[b]?:=fun {q gq v b} hq hgq J hb =>
   e7 b (M.gbo q gq b hgq (.inr ⟨v,J,hb⟩)).1 fun h=>hq (M.ijo q oo gq g b hgq hg (.inr ⟨v,J,hb⟩) (.inl h))
  have inj2:∀{j:Nat} {v:Value},gB.inn[j]?=some v->(j<B.inn.length/\B.inn[j]?=some v)∨(B.inn.length<=j/\Q.inn[j-B.inn.length]?=some v):=fun {j v} h=>by
   rcases Nat.lt_or_ge j B.inn.length with hj|hj
   .rw[show gB.inn=B.inn++Q.inn from rfl,getElem?_append_left hj]at h;exact .inl ⟨hj,h⟩
   .rw[show gB.inn=B.inn++Q.inn from rfl,getElem?_append_right hj]at h;exact .inr ⟨hj,h⟩
  have hS2:St K G' (((((fF F H).set oo (.nst f T2 sz2 k2 p (U++Y) none)).set p (.inn Te2 sze2 (ins++ins2))).set o2 .gone).set p2 .gone) w':=by
   refine M.modM (tgt:=fun q=>if q=p2 then p else q) (on:=oo) (f:=F) ?_ hMg e6 hfr hown fun m R x' A L=>?_
   .show((((G.set oo gA).set p gB).set o2 s).set p2 s).length=_;simp[BX,M.len]
   rcases ji L with⟨rfl,rfl,_⟩|⟨m1,L⟩
   .exact .inl trivial
   rcases ji L with⟨rfl,rfl,_⟩|⟨m2,L⟩
   .exact .inl trivial
   rcases ji L with⟨rfl,rfl,_⟩|⟨m3,L⟩
   .rw[W]at A;cases A;refine .inl ⟨rfl,by show(B.inn++Q.inn).length=_;simp[hpl,hpl2],fun j v rr J Z=>?_,fun j j' v u' b J hu' S hb2=>?_⟩
    .rcases inj2 J with⟨hj,I⟩|⟨hj,I⟩
     .rw[getElem?_append_left (by omega)]at Z;exact bufR.keep hMn (fun b hb=>kin n1.symm D (mem_of_getElem? I) hb) (hpi j v rr I Z)
     .rw[getElem?_append_right (by omega),<-hpl]at Z;exact bufR.keep hMn (fun b hb=>kin n3.symm hgp2 (mem_of_getElem? I) hb) (hpi2 _ v rr I Z)
    .rcases inj2 J with⟨hj,I⟩|⟨hj,I⟩ <;> rcases inj2 hu' with⟨hj',hu2⟩|⟨hj',hu2⟩
     .exact hpd j j' v u' b I hu2 S hb2
     .exact absurd (M.ijo m p2 B Q b D hgp2 (.inr ⟨v,mem_of_getElem? I,S⟩) (.inr ⟨u',mem_of_getElem? hu2,hb2⟩)) n5
     .exact absurd (M.ijo m p2 B Q b D hgp2 (.inr ⟨u',mem_of_getElem? hu2,hb2⟩) (.inr ⟨v,mem_of_getElem? I,S⟩)) n5
     .have:=hpd2 _ _ v u' b I hu2 S hb2;omega
   rcases ji L with⟨rfl,rfl,_⟩|⟨m4,L⟩
   .rw[hG'o]at A;cases A;have q1:=kK hst;have q2:=kK hst2;refine .inl ⟨V,hk0,gB,vs++vs2,W,by simp[hvl,hvl2],⟨by show _=(B.inn++Q.inn).length;rw[q1,q2],fun l _=>by show _=(B.inn++Q.inn)[l]?;rw[q1,q2],fun v J=>?_⟩,by rw[RB hvl];exact e9⟩;rcases mem_append.1 (show v∈B.inn++Q.inn from J)with J|J
    .exact hst.2.2 v J
    .exact hst2.2.2 v J
   obtain⟨y',hy',rfl⟩:=Nl L;exact .inr ⟨(hF m).2 ⟨m4,m3,m2,m1⟩,y',hy',rfl⟩
  have hkF:∀m,C.kp m=true->F m=true:=fun m n=>(hF m).2 ⟨fun e=>(by subst e;rw[hko]at n;cases n),fun e=>(by subst e;rw[hkpp]at n;cases n),fun e=>(by subst e;rw[hko2]at n;cases n),fun e=>(by subst e;rw[hkp2]at n;cases n)⟩;refine⟨K,G',hX.trans (Ext.modM (by show G.length<=((((G.set oo gA).set p gB).set o2 s).set p2 s).length;simp) hMg e3 e4 e5 e6 hfr hown hkF),hS2,fun m'=>?_,hd,hn,fun m n=>?_,?_⟩
  .rw[sH];exact VR.prune hMn hMg _ _ (hE m')
  .obtain⟨m1,m2,m3,m4⟩:=(hF m).1 (hkF m n);obtain⟨z',hz',hkz⟩:=hkp m n;rw[getElem?_set_ne (Ne.symm m4),getElem?_set_ne (Ne.symm m3),getElem?_set_ne (Ne.symm m2),getElem?_set_ne (Ne.symm m1)];exact Ns hz' hkz
  .simp only[VR];exact⟨gA,hG'o,rfl,sa,sn,sc,e2⟩
 .cases Z
theorem nu{K:Nat->Prop}{G:List Gh}(hX:Ext C.kp C.K0 C.G0 C.w0 K G w)(O:St K G H w)(hE:ja K w.heap G a E)(P:a.defers=[])(X:a.tmps.size=C.n)(Y:gg C.kp H){cs:Array Value}{T Te:TypeId}{sz k Q n p:Nat}{rows:List (List Dt)}{vs xs:List Value}{ins:List (List (List Dt))}
  (hx:DRss K w.heap sz xs (fT k rows vs)) (R:vs.length=rows.length) (hil:ins.length=rows.length) (hn:rows.length=n) (F:n<=eE) (hk:k<sz) (Z:n<=p) (S:p<=maxLen) (hcs:cs.size=p*sz) (I:cs.toList.take (n*sz)=xs)
  (s:∀v∈vs,v=.slice none 0 0) (U:∀r∈ins,r=[]) :
  RelV C E (H++[.nst false T sz k (H.length+1) rows none,.inn Te Q ins]) (.slice (some ⟨w.heap.size,0,none⟩) n p) (.buf H.length) a (w.alloc (.cells cs T (0,0))):=by
 subst hn;let w1:=w.alloc (.cells cs T (0,0));let sv:Value:=.slice (some ⟨w.heap.size,0,none⟩) rows.length p;have hM:Mn K K w.heap w1.heap:=Mn.alloc O.kb _;have t:St K (G++[⟨some w.heap.size,sv,[]⟩]) (H++[.gone]) w1:=O.push trivial;let gN:Gh:=⟨some w.heap.size,sv,[]⟩;let gI:Gh:=⟨none,undef,vs⟩;have J:=O.len;have hgN:(G++[gN,gI])[H.length]?=some gN:=by rw[<-J,getElem?_append_right (Nat.le_refl _)];simp
 have hgI:(G++[gN,gI])[H.length+1]?=some gI:=by rw[<-J,getElem?_append_right (by omega)];simp
 have L:∀(o:Nat) (g:Gh),G[o]?=some g->(G++[gN,gI])[o]?=some g:=fun o g h=>by rw[getElem?_append_left (List.getElem?_eq_some_iff.1 h).1];exact h
 have A:∀v∈vs,il v=none:=fun v q=>by rw[s v q];rfl
 have e:∀{α:Type} {l:List α} {x y z:α} {o:Nat},(l++[x,y])[o]?=some z->(o<l.length/\l[o]?=some z)∨(o=l.length/\z=x)∨(o=l.length+1/\z=y):=by
  intro α l x y z o h;rcases Nat.lt_or_ge o l.length with d|d
  .rw[getElem?_append_left d]at h;exact .inl ⟨d,h⟩
  .rw[getElem?_append_right d]at h;match P:o-l.length with
   |0=>rw[P]at h;exact .inr (.inl ⟨by omega,(Option.some.inj h).symm⟩)
   |1=>rw[P]at h;exact .inr (.inr ⟨by omega,(Option.some.inj h).symm⟩)
   |m+2=>rw[P]at h;cases h
 have hS2:St K (G++[gN,gI]) (H++[.nst false T sz k (H.length+1) rows none,.inn Te Q ins]) w1:=by
  refine⟨by simp[J],t.kb,fun o g b B hb=>?_,fun o o' g g' b B hg' hb V=>?_,fun o g x B M=>?_,t.tb⟩
  .rcases e B with⟨d,h⟩|⟨d,rfl⟩|⟨d,rfl⟩
   .exact t.gbo o g b (by rw[getElem?_append_left d];exact h) hb
   .exact t.gbo o gN b (by rw[d,getElem?_append_right (Nat.le_refl _)];simp[gN]) hb
   .rcases hb with hb|⟨v,q,c⟩
    .cases hb
    .rw[A v q]at c;cases c
  .have W:∀{o:Nat} {g:Gh},(G++[gN,gI])[o]?=some g->own g b->(G++[gN])[o]?=some g:=fun {o g} B hb=>by
    rcases e B with⟨d,h⟩|⟨d,rfl⟩|⟨d,rfl⟩
    .rw[getElem?_append_left d];exact h
    .rw[d,getElem?_append_right (Nat.le_refl _)];simp
    .rcases hb with hb|⟨v,q,c⟩
     .cases hb
     .rw[A v q]at c;cases c
   exact t.ijo o o' g g' b (W B hb) (W hg' V) hb V
  .rcases e B with⟨d,h⟩|⟨d,rfl⟩|⟨d,rfl⟩
   .rcases e M with⟨_,h'⟩|⟨N,_⟩|⟨N,_⟩
    .exact ObR.keep hM (f:=fun _=>true) (fun o g _ h=>L o g h) (fun b hb=>heap_alloc_old w _ (O.gbo o g b h hb).1) (Ob.all_true _) (O.ob o g x h h')
    .omega
    .omega
   .rcases e M with⟨N,_⟩|⟨_,rfl⟩|⟨N,_⟩
    .omega
    .refine⟨F,hk,gI,vs,hgI,R,⟨rfl,fun _ _=>rfl,fun v q=>⟨none,0,0,s v q⟩⟩,?_⟩;have D:=BM (k:=k) R;exact⟨by rw[D];exact F,xs,DRss.mono hM _ _ _ hx,.inr ⟨w.heap.size,p,cs,(0,0),by rw[D],rfl,heap_alloc_new w _,Free.zero _,by rw[D];exact Z,S,Nat.le_of_eq hcs.symm,by rw[D];exact I⟩⟩
    .omega
   .rcases e M with⟨N,_⟩|⟨N,_⟩|⟨_,rfl⟩
    .omega
    .omega
    .refine⟨rfl,by show vs.length=_;omega,fun j v r q hr=>?_,fun i j v u b q hu hb _=>?_⟩
     .have d:=s v (mem_of_getElem? q);have N:=U r (mem_of_getElem? hr);rw[d,N];exact⟨by simp,[],by simp[DRss],.inl ⟨⟨none,rfl⟩,rfl,rfl⟩⟩
     .rw[A v (mem_of_getElem? q)]at hb;cases hb
 have hX2:Ext C.kp C.K0 C.G0 C.w0 K (G++[gN,gI]) w1:=by
  refine hX.trans { os:=rfl,tape:=⟨rfl,fun _=>Nat.le_refl _⟩,output:=rfl,size:=by show w.heap.size<=(w.alloc _).heap.size;rw[World.size_alloc];omega,k:=fun _ h=>h,knew:=fun _ h=>.inl h,glen:=by simp,gown:=fun o g b B hb=>?_,gsame:=fun o g0 _ h0=>L o g0 h0,frame:=fun b hb _=>heap_alloc_old w _ hb };rcases e B with⟨d,h⟩|⟨d,rfl⟩|⟨d,rfl⟩
  .exact .inl ⟨o,g,h,hb⟩
  .obtain rfl:=yx hb;exact .inr (Nat.le_refl _)
  .rcases hb with hb|⟨v,q,c⟩
   .cases hb
   .rw[A v q]at c;cases c
 refine⟨K,G++[gN,gI],hX2,hS2,fun m=>VR.grow hM L _ _ (hE m),P,X,fun o ho=>?_,?_⟩
 .obtain⟨z,hz,hkz⟩:=Y o ho;exact⟨z,by rw[getElem?_append_left (List.getElem?_eq_some_iff.1 hz).1];exact hz,hkz⟩
 .simp only[VR];exact⟨gN,hgN,rfl,_,_,_,rfl⟩
theorem rt{k:Nat}{z:List Dt}{v:Value}:∀n:Nat,fT k (List.replicate n z) (List.replicate n v)=List.replicate n (z.set k (.r v))
 |0=>rfl
 |n+1=>by simp only[replicate_succ,fT,rt n]
theorem Ck{K:Nat->Prop}{h:Array Obj}{G:List Gh}{cs:List Value}{vs:List Va}{k:Nat}{v:Value}{z:List Dt}(a:VRs K h G cs vs)(c:fe (vs.set k (.p (.b false)))=some z)(d:cs[k]?=some v)(e:v.oneCell'=true):DRs K h cs (z.set k (.r v)):=by
 have f:VRs K h G (cs.set k (.bool false)) (vs.set k (.p (.b false))):=a.set (by simp only[VR,DR]) k;have g:=(pj f c).set (show DR K h v (.r v)by simp only[DR];exact⟨trivial,e⟩) k;have i:(cs.set k (.bool false)).set k v=cs:=by rw[set_set];obtain⟨j,he⟩:=List.getElem?_eq_some_iff.1 d;rw[<-he];exact set_getElem_self j
 rwa [i]at g
theorem AA(X:Rel C E H a w)(o:Oper){t:TypeId}{x y:Operand}(Y:o.op=.makeSlice t x y)(Z:opOk true E x)(hy:opOk true E y){r:Ev}(d:wd C.P E H t (opnd E x) (opnd E y)=some r)(g:r.ok):gT C o a w r.v r.E r.H:=by
 obtain⟨K,G,hX,hS,D,hd,F,I⟩:=X;have h:=zG D rfl x Z;have j:=zG D rfl y hy;unfold wd at d;split at d;rotate_left
 .cases d
 rename_i e esz eb ez hk;split at d;rotate_left
 .cases d
 rename_i k Te sze J;cases d;split at g;rotate_left
 .exact g.elim
 rename_i z kl n kc m hz L M;obtain⟨N,q,O,s,Q,R,S,heb⟩:=g;obtain⟨hu,i,B,T,U,V,W,l⟩:=MW hk;rw[L]at h;rw[M]at j;simp only[VR,DR]at h j;have u:=S;unfold eE at u;have c:(i.bytes:Int)*m<=281474976710656:=by rw[V];have h1:(eb:Int)*m<=512*m:=Int.mul_le_mul_of_nonneg_right (by omega) (by omega);omega
 have f:=run_make (P:=C.P) w t e i B hu T W kl kc n m Q R c (by omega);rw[U]at f;refine⟨_,_,.inl (by obtain⟨dst,op,ty,pos,af,gd⟩:=o;cases Y;exact ue (by rw[h.1,j.1];exact f)),?_⟩;have p:=HH (sz:=esz) (z:=B.cells) (by rw[l];exact q) (by omega) m.toNat;have b:∀n:Nat,((List.replicate n B.cells.toList).flatten).length=n*esz:=by
  intro n;induction n with
  |zero=>simp
  |succ n ih=>rw[replicate_succ,flatten_cons,length_append,ih,l,q,Nat.add_mul];omega
 have A:DRs K w.heap ez (z.set k (.r (.slice none 0 0))):=Ck (G:=G) (yz N) hz s rfl;have hzl:=A.length;refine nu hX hS D hd F I (xs:=(List.replicate n.toNat B.cells.toList).flatten) (vs:=List.replicate n.toNat (.slice none 0 0)) ?_ (by simp) (by simp) (by simp) (by unfold eE;omega) O (by omega) (by simp only[maxLen];omega) (size_madeCells _ _) ?_ (fun v hv=>(mem_replicate.1 hv).2) (fun r d=>(mem_replicate.1 d).2)
 .rw[rt];have:=DRss.replicate A n.toNat;rw[l]
  rwa [show(z.set k (.r (.slice none 0 0))).length=esz by omega]at this
 .rw[p];have:m.toNat=n.toNat+(m.toNat-n.toNat):=by omega
  rw[this,<-replicate_append_replicate,flatten_append,take_append_of_le_length (by rw[b];exact Nat.le_refl _)];exact take_of_length_le (by rw[b];exact Nat.le_refl _)
theorem G7:∀{vs:List Va} {k:Nat} {d d':Dt} {z:List Dt},fe (vs.set k (.p d))=some z->fe (vs.set k (.p d'))=some (z.set k d')
 |[],_,_,_,z,h=>by simp only[set_nil,fe]at h|-;cases h;rfl
 |v::vs,0,d,d',z,h=>by
  simp only[set_cons_zero,fe]at h|-;split at h
  .cases h;rfl
  .cases h
 |v::vs,k+1,d,d',z,h=>by
  simp only[set_cons_succ]at h|-;cases v with
  |p x =>
   simp only[fe]at h;split at h
   .rename_i b a;cases h;simp only[fe,G7 a];rfl
   .cases h
  |nils =>
   simp only[fe]at h;split at h
   .rename_i b a;cases h;simp only[fe,G7 a];rfl
   .cases h
  |full x =>
   simp only[fe]at h;split at h
   .rename_i b a;cases h;simp only[fe,G7 a];rfl
   .cases h
  |_=>simp[fe]at h
theorem xx{l:List Va}{j:Nat}{v:Va}(h:tT l j=v)(b:v≠.top):l[j]?=some v:=by
 unfold tT at h;cases a:l.drop j with
 |nil=>rw[a]at h;exact absurd h.symm b
 |cons x r=>rw[a]at h;rw[kx a];simp only at h;rw[h]
theorem oK{K:Nat->Prop}{G:List Gh}{o:Oper}{t:TypeId}{ps:Array (Nat×Operand)}(N:o.op=.buildSlice t 1 ps){x:Operand}(p:ps.toList=[(0,x)]){e:TypeId}{esz eb:Nat}{ez:List Value}(O:zB C.P t=.slice e esz eb ez)
  {z0 row:List Dt} (q:pn ez) (r:fe (ez.map cv)=some z0) (s:ez.length=esz) (Q:0<esz) (R:esz<=16777216) {cs:List Va} (S:VR K w.heap G (a.eval x) (.agg cs)) (u:fe cs=some row) (y:row.length=esz) :
  ∃b,(execOp a.eval o).run C.P w=.ok (.value (.slice (some ⟨w.heap.size,0,none⟩) 1 1)) (w.alloc (.cells b e))/\DRss K w.heap esz b.toList [row]:=by
 obtain⟨T,i,L,f,z,U,A,d⟩:=MW O;have B:(zeroValue e).run C.P w=.ok L w:=by simp[zeroValue,typeInfo,f,A]
 have g:DRs K w.heap ez z0:=pj (yz (G:=G) q) r;have V:=g.length;have h:DRss K w.heap esz (madeCells L.cells (1*esz)).toList (List.replicate 1 z0):=by
  rw[HH (by rw[d];exact s) Q,d];have:=DRss.replicate g 1
  rwa [show z0.length=esz by omega]at this
 have D:BF esz (List.replicate 1 z0) [(0,.agg cs)]=some [row]:=by simp only[BF,iD,u,Va.isCell,y,length_replicate];simp
 obtain⟨b,W,E,_⟩:=PB (ps:=[(0,a.eval x)]) D h rfl (fun j c v F M=>by
  cases j with
  |zero=>simp at F M;subst F;subst M;exact S
  |succ j=>simp at F)
 have H:(sizeOf e).run C.P w=.ok esz w:=mM (by simp[hD,f,z]);have k:¬ (1*esz > 2^24):=by omega
 have I:¬ 1*esz=0:=by omega
 have l:(ps.map fun x=>(x.1,a.eval x.2)).toList=[(0,a.eval x)]:=by rw[Array.toList_map,p];rfl
 refine⟨b,?_,E⟩;have m:(Instr.buildSlice t 1 (ps.map fun x=>(x.1,a.eval x.2))).run C.P w=.ok (.slice (some ⟨w.heap.size,0,none⟩) 1 1) (w.alloc (.cells b e)):=by
  have J:∀n:Array Value,n.toList=ez->(Array.range (1*esz)).map (fun x=>n[x % n.size]!)=madeCells n (1*esz):=fun _ _=>rfl;simp only[Instr.buildSlice,run_underlying T,H,Sem.run_bind,Result.andThen_ok,if_neg k,Sem.run_pure,if_neg I,B,J _ d,l,W,newRow,run_newObj];rfl
 obtain⟨X,op,Y,pos,Z,gd⟩:=o;cases N;exact ue m
theorem Be(hR:Rel C E H a w)(o:Oper){t:TypeId}{n:Nat}{ps:Array (Nat×Operand)}(ho:o.op=.buildSlice t n ps){r:Ev}(N:xm C.P C.kp E H t n ps.toList=some r)(s:r.ok):gT C o a w r.v r.E r.H:=by
 obtain⟨K,G,hX,hS,hE,hd,hnn,hkp⟩:=hR;unfold xm at N;split at N;rotate_left
 .cases N
 rename_i e esz eb ez hk;split at N;rotate_left
 .cases N
 rename_i k Te sze hnest;cases N;split at s;rotate_left
 .exact s.elim
 rename_i x hone0;obtain⟨rfl,hps⟩:=j2 hone0;split at s;rotate_left
 .exact s.elim
 rename_i cs hxx;split at s;rotate_left
 .exact s.elim
 rename_i z z0 hz hz0;split at s
 ·-- none is held yet
  rename_i hat;obtain⟨hx,hone,hzk,hel,hcl,hks,hsm⟩:=s;have L:=zG hE rfl x hx;rw[hxx]at L;simp only[VR]at L;obtain⟨vals,hax,M⟩:=L;have Q:=xx hat (by simp);obtain⟨c,hc1,R⟩:=M.get k _ Q;simp only[VR]at R;subst R;have D:VRs K w.heap G vals (cs.set k (.p (.r (.slice none 0 0)))):=by
   have:=M.set (show VR K w.heap G (.slice none 0 0) (.p (.r (.slice none 0 0)))by simp only[VR,DR];exact⟨trivial,rfl⟩) k;obtain⟨hl,he⟩:=List.getElem?_eq_some_iff.1 hc1
   rwa [show vals.set k (.slice none 0 0)=vals by rw[<-he];exact set_getElem_self hl]at this
  have F:=G7 (d':=.r (.slice none 0 0)) hz;have hrl:(z.set k (.r (.slice none 0 0))).length=esz:=by have A:=(pj D F).length;have O:=M.length;omega
  obtain⟨S,T,U⟩:=oK (C:=C) ho hps hk hzk hz0 hel (by omega) hsm (by rw[hax];simp only[VR];exact⟨vals,rfl,D⟩) F hrl;have I:=U.length;refine⟨_,_,.inl T,?_⟩;exact nu hX hS hE hd hnn hkp (xs:=S.toList) (vs:=[.slice none 0 0]) (rows:=[z]) (ins:=[[]]) U rfl rfl rfl (by unfold eE;omega) hks (Nat.le_refl _) (by simp only[maxLen];omega) (by simpa using I) (by rw[take_of_length_le];simp at I|-;omega) (fun v X=>by simpa using X) (fun r N=>by simpa using N)
 ·-- a slice of the call's own goes in
  rename_i m hat;split at s;rotate_left
  .exact s.elim
  rename_i Te' sze' rr hom;obtain⟨hkm,rfl,rfl,hx,hone,hzk,hel,hcl,hks,hsm⟩:=s;have L:=zG hE rfl x hx;rw[hxx]at L;simp only[VR]at L;obtain⟨vals,hax,M⟩:=L;have Q:=xx hat (by simp);obtain⟨c,hc1,R⟩:=M.get k _ Q;simp only[VR]at R;obtain⟨J,Y,rfl,ma,mn,mc,hmsv⟩:=R;have homS:=zu hom (by simp);have hmb:=hS.ob m J _ Y homS;have h1c:J.sv.oneCell'=true:=by rw[hmsv];rfl
  have D:VRs K w.heap G vals (cs.set k (.p (.r J.sv))):=by
   have:=M.set (show VR K w.heap G J.sv (.p (.r J.sv))by simp only[VR,DR];exact⟨trivial,h1c⟩) k;obtain⟨hl,he⟩:=List.getElem?_eq_some_iff.1 hc1
   rwa [show vals.set k J.sv=vals by rw[<-he];exact set_getElem_self hl]at this
  have F:=G7 (d':=.r J.sv) hz;have hrl:(z.set k (.r J.sv)).length=esz:=by have A:=(pj D F).length;have O:=M.length;omega
  obtain⟨S,T,U⟩:=oK (C:=C) ho hps hk hzk hz0 hel (by omega) hsm (by rw[hax];simp only[VR];exact⟨vals,rfl,D⟩) F hrl;have I:=U.length;simp at I;refine⟨_,_,.inl T,?_⟩;let w1:=w.alloc (.cells S e);let sv:Value:=.slice (some ⟨w.heap.size,0,none⟩) 1 1;let gN:Gh:=⟨some w.heap.size,sv,[]⟩;let gI:Gh:=⟨none,undef,[J.sv]⟩;let q:Gh:=⟨none,undef,[]⟩;have hM:Mn K K w.heap w1.heap:=Mn.alloc hS.kb _;have hS1:St K (G++[gN]) (H++[.gone]) w1:=hS.push trivial;have Z:=hS.len;have hmL:m<G.length:=(List.getElem?_eq_some_iff.1 Y).1;let G':=G.set m q++[gN,gI];have V:(G.set m q).length=H.length:=by simp[Z]
  have hgN:G'[H.length]?=some gN:=by show(G.set m q++[gN,gI])[_]?=_;rw[getElem?_append_right (by omega),V];simp
  have hgI:G'[H.length+1]?=some gI:=by show(G.set m q++[gN,gI])[_]?=_;rw[getElem?_append_right (by omega),V];simp
  have cs2:∀{α:Type} {l:List α} {x y z:α} {o:Nat},(l++[x,y])[o]?=some z->(o<l.length/\l[o]?=some z)∨(o=l.length/\z=x)∨(o=l.length+1/\z=y):=by
   intro α l x y z o h;rcases Nat.lt_or_ge o l.length with A|A
   .rw[getElem?_append_left A]at h;exact .inl ⟨A,h⟩
   .rw[getElem?_append_right A]at h;match hd:o-l.length with
    |0=>rw[hd]at h;exact .inr (.inl ⟨by omega,(Option.some.inj h).symm⟩)
    |1=>rw[hd]at h;exact .inr (.inr ⟨by omega,(Option.some.inj h).symm⟩)
    |m+2=>rw[hd]at h;cases h
  have hcs:∀{g:Nat} {g':Gh},G'[g]?=some g'->(g=m/\g'=q)∨(g≠m/\g<H.length/\G[g]?=some g')∨(g=H.length/\g'=gN)∨(g=H.length+1/\g'=gI):=by
   intro g g' h;rcases cs2 h with⟨A,h⟩|⟨A,h⟩|⟨A,h⟩
   .rcases ji h with⟨O,h3,_⟩|⟨O,h3⟩
    .exact .inl ⟨O,h3⟩
    .exact .inr (.inl ⟨O,by omega,h3⟩)
   .exact .inr (.inr (.inl ⟨by omega,h⟩))
   .exact .inr (.inr (.inr ⟨by omega,h⟩))
  have hMg0:∀(g:Nat) (g':Gh),g≠m->G[g]?=some g'->G'[g]?=some g':=fun g g' h h'=>by
   have:=(List.getElem?_eq_some_iff.1 h').1;show(G.set m q++[gN,gI])[_]?=_;rw[getElem?_append_left (by simpa using this),getElem?_set_ne (Ne.symm h)];exact h'
  have hMg:Mg (· != m) G G':=fun g g' B d=>hMg0 g g' (by simpa using B) d;have hMg1:Mg (· != m) (G++[gN]) G':=fun g g' B d=>by
   have ho2:g≠m:=by simpa using B
   rcases Nat.lt_or_ge g G.length with A|A
   .rw[getElem?_append_left A]at d;exact hMg0 g g' ho2 d
   .have O:=(List.getElem?_eq_some_iff.1 d).1;simp at O;obtain rfl:g=G.length:=by omega
    rw[getElem?_append_right (Nat.le_refl _)]at d;simp at d;subst d;rw[Z];exact hgN
  have hown:tX w1 w1 (G++[gN]) G' (· != m) (fun _=>H.length+1) 0:=by
   intro g g' b d hb';rcases hcs d with⟨_,rfl⟩|⟨A,O,h3⟩|⟨rfl,rfl⟩|⟨rfl,rfl⟩
   .exact(uh hb').elim
   .exact .inl ⟨by simpa using A,by rw[getElem?_append_left (by omega)];exact h3⟩
   .exact .inl ⟨by simp;omega,by rw[<-Z,getElem?_append_right (Nat.le_refl _)];simp⟩
   .rcases hb' with hb'|⟨v,X,hvb⟩
    .cases hb'
    .obtain rfl:v=J.sv:=by simpa using (show v∈[J.sv]from X)
     exact .inr (.inl ⟨m,J,by simp,by rw[getElem?_append_left hmL];exact Y,.inl (BC hmb hvb),rfl⟩)
  have hS2:St K G' ((fF (· != m) H).set m .gone++[.nst false e esz k (H.length+1) [z] none,.inn Te' sze' [rr]]) w1:=by
   refine hS1.modM (tgt:=fun _=>H.length+1) (on:=0) (f:=(· != m)) ?_ hMg1 (Nat.le_refl _) (fun _ _ _=>rfl) hown fun g g' x' d W=>?_
   .show(G.set m q++[gN,gI]).length=_;simp[BX,Z]
   have hHl:((fF (· != m) H).set m .gone).length=H.length:=by simp[BX]
   rcases cs2 W with⟨A,W⟩|⟨A,rfl⟩|⟨A,rfl⟩
   .rcases ji W with⟨_,rfl,_⟩|⟨O,W⟩
    .exact .inl trivial
    .obtain⟨y',hy',rfl⟩:=Nl W;exact .inr ⟨by simpa using O,y',by rw[getElem?_append_left (by omega)];exact hy',rfl⟩
   .rw[hHl]at A;subst A;rw[hgN]at d;cases d;refine .inl ⟨by show(1:Nat)<=eE;unfold eE;omega,hks,gI,[J.sv],hgI,rfl,⟨rfl,fun _ _=>rfl,fun v X=>?_⟩,?_⟩
    .obtain rfl:v=J.sv:=by simpa using (show v∈[J.sv]from X)
     exact⟨_,_,_,hmsv⟩
    .exact⟨by show(1:Nat)<=eE;unfold eE;omega,S.toList,DRss.mono hM _ _ _ U,.inr ⟨w.heap.size,1,S,(0,0),rfl,rfl,heap_alloc_new w _,Free.zero _,Nat.le_refl _,by simp only[maxLen];omega,by have:=I;omega,by rw[take_of_length_le];simp[fT];omega⟩⟩
   .rw[hHl]at A;subst A;rw[hgI]at d;cases d;refine .inl ⟨rfl,rfl,fun j v r X N=>?_,fun i j v u b X hu _ _=>?_⟩
    .cases j with
     |zero =>
      simp[gI]at X N;subst X;subst N;exact Pa (bufR.keep hM (fun b hb=>heap_alloc_old w _ (hS.gb m J b Y hb).1) hmb)
     |succ j=>simp at N
    .have A:=(List.getElem?_eq_some_iff.1 X).1;have O:=(List.getElem?_eq_some_iff.1 hu).1;simp[gI]at A O;omega
  have hkf:∀g,C.kp g=true->(g != m)=true:=fun g B=>by
   simp only[bne_iff_ne,ne_eq];exact fun e=>by subst e;rw[hkm]at B;cases B
  refine⟨K,G',(hX.trans (Ext.push C.kp _ sv)).trans (Ext.modM (by show(G++[gN]).length<=(G.set m q++[gN,gI]).length;simp) hMg1 rfl ⟨rfl,fun _=>Nat.le_refl _⟩ rfl (Nat.le_refl _) (fun _ _ _=>rfl) hown hkf),hS2,fun m'=>?_,hd,hnn,fun g B=>?_,?_⟩
  .rw[sH];exact VR.prune hM hMg _ _ (hE m')
  .have hne:g≠m:=by simpa using hkf g B
   obtain⟨z',hz',hkz⟩:=hkp g B;have hol:=(List.getElem?_eq_some_iff.1 hz').1;rw[getElem?_append_left (by simpa [BX]using hol),getElem?_set_ne (Ne.symm hne)];exact Ns hz' hkz
  .simp only[VR];exact⟨gN,hgN,rfl,_,_,_,rfl⟩
 .exact s.elim
end
def w5(C:Cx)(E:ey)(H:List Ob)(o:Oper):Prop :=
 (gh C.P C.kp E H o.op).ok->∀a w,Rel C E H a w->gT C o a w (gh C.P C.kp E H o.op).v (gh C.P C.kp E H o.op).E (gh C.P C.kp E H o.op).H
theorem qA(C:Cx)(E:ey)(H:List Ob)(o:Oper):w5 C E H o:=by
 intro b a w f;unfold gh at b|-;cases d:g6 C.P C.kp E H o.op with
 |none=>rw[d]at b;exact A0 C E H o b a w f
 |some r =>
  rw[d]at b;simp only at b|-;cases g:o.op <;> rw[g]at d <;> simp only[g6]at d <;> try (cases d)
  case buildSlice t n p=>exact Be f o g d b
  case store t x y =>
   unfold yh at d;split at d
   .rename_i h e;cases d;exact sV (r:=h) f o g b.1 b.2.1 e b.2.2
   .cases d
  case makeSlice t l c =>
   unfold yh at d;split at d
   .rename_i h e;cases d;exact AA (r:=h) f o g b.1 b.2.1 e b.2.2
   .cases d
  case call c =>
   split at d
   .rename_i x y t u i;obtain⟨j,k,m⟩:=kE i;unfold yh at d;split at d
    .rename_i h e;cases d;exact Bm (r:=h) f o j k m g b.1 b.2.1 e b.2.2
    .cases d
   .cases d
structure Bs where
 K0:Nat->Prop
 G0:List Gh
 w0:World
def eI:List Bool->Nat->Bool
 |[],_=>false
 |b::_,0=>b
 |_::l,n+1=>eI l n
abbrev cx(P:Program)(a:List Bool)(n:Nat)(B:Bs):Cx:=⟨P,eI a,B.K0,B.G0,B.w0,n⟩
abbrev Qt:=Exit->ey->List Ob->Prop
def QC(C:Cx)(Q:Qt):Exit->Act->World->Prop:=fun e a w=>∃E H,Q e E H/\Rel C E H a w
def Wp(P:Program)(b:List Bool)(n:Nat)(B:Bs)(c:Code)(Q:Qt)(E:ey)(H:List Ob):Prop :=
 B.G0.length=b.length->∀a w,Rel (cx P b n B) E H a w->c.wp P (QC (cx P b n B) Q) a w
def zz(K:ey->List Ob->Prop)(Q:Qt):Qt
 |.normal,E,H=>K E H
 |e,E,H=>Q e E H
def zw(id:Nat)(Q:Qt):Qt
 |.exit i,E,H=>if i=id then Q .normal E H else Q (.exit i) E H
 |e,E,H=>Q e E H
section
variable {P:Program} {kl:List Bool} {n:Nat} {B:Bs} {Q:Qt} {E:ey} {H:List Ob}
theorem Wp.mono{c:Code}{b:Qt}(h:Wp P kl n B c Q E H)(d:∀e E H,Q e E H->b e E H):Wp P kl n B c b E H :=
 fun f a w g=>wp_mono (h f a w g) fun _ _ _ ⟨i,j,k,l⟩=>⟨i,j,d _ _ _ k,l⟩
theorem Wp.skip(h:Q .normal E H):Wp P kl n B .skip Q E H:=fun _ _ _ a=>wp_skip ⟨E,H,h,a⟩
theorem Wp.ret(h:Q .ret E H):Wp P kl n B .ret Q E H:=fun _ _ _ a=>wp_ret ⟨E,H,h,a⟩
theorem Wp.exit{id:Nat}(h:Q (.exit id) E H):Wp P kl n B (.exit id) Q E H:=fun _ _ _ a=>wp_exit ⟨E,H,h,a⟩
theorem Wp.seq{x y:Code}(h:∀K:ey->List Ob->Prop,(∀E H,Wp P kl n B y Q E H->K E H)->Wp P kl n B x (zz K Q) E H):Wp P kl n B (.seq x y) Q E H:=by
 intro c a w f;refine wp_seq (wp_mono (h _ (fun _ _ h=>h) c a w f) ?_);intro e g i ⟨j,k,d,b⟩;cases e <;> first|exact d c g i b|exact⟨j,k,d,b⟩
theorem Wp.block{id:Nat}{c:Code}(h:Wp P kl n B c (zw id Q) E H):Wp P kl n B (.block id c) Q E H:=by
 intro j a w k;refine wp_block (wp_mono (h j a w k) ?_);intro e l m ⟨f,g,d,b⟩;cases e with
 |exit i =>
  simp only[Exit.inBlock,zw]at d|-;split
  .rename_i e;rw[if_pos e]at d;exact⟨f,g,d,b⟩
  .rename_i e;rw[if_neg e]at d;exact⟨f,g,d,b⟩
 |_=>exact⟨f,g,d,b⟩
theorem Wp.cond{c:Operand}{x y:Code}{b:Bool}(g:eN E c=.p (.b b))(i:ub c)(j:b=true->Wp P kl n B x Q E H)(k:b=false->Wp P kl n B y Q E H):Wp P kl n B (.cond c x y) Q E H:=by intro e a w f;have d:=f;obtain⟨K,G,m,o,l,_⟩:=f;have:=k7 l c i;rw[g]at this;simp only[VR,DR]at this;exact wp_cond_split this (fun h=>j h e a w d) (fun h=>k h e a w d)
end
def Rg(P:Program)(b:List Bool)(n:Nat)(B:Bs)(ops:Array Oper)(l:List Oper)(E:ey)(H:List Ob)(K:ey->List Ob->Prop):Prop :=
 B.G0.length=b.length->∀a w (Q:Exit->Act->World->Prop),Rel (cx P b n B) E H a w->(∀c d e f,K c d->Rel (cx P b n B) c d e f->Q .normal e f)->wpList P ops Q l a w
def gx(n:Nat):Option Tmp->Prop
 |none=>True
 |some d=>d<n
def je(e:List Oper)(E:ey)(j:Nat)(a:Bool):Option Bool:=match e[j]? with
 |some f=>match f.dst with
  |some d=>match eR E d with
   |.p (.b t)=>some (t == a)
   |.cnd c (.p (.b t))=>some (c&&(t == a))
   |_=>none
  |none=>none
 |none=>none
inductive Cl where
 |pure|eff|stop
def Bd(P:Program):Op->Cl
 |.binOp .eql t _ _ _=>match zB P t with
  |.slice _ _ _ _=>.stop
  |_=>.pure
 |.binOp .neq t _ _ _=>match zB P t with
  |.slice _ _ _ _=>.stop
  |_=>.pure
 |.alloc _|.box _ _|.buildSlice _ _ _|.store _ _ _|.makeSlice _ _ _|.makeMap _ _|.mapUpdate _ _ _ _|.insert _ _ _ _=>.eff
 |.move _|.assign _|.pick _ _ _|.build _ _|.load _ _|.nilCheck _|.binOp _ _ _ _ _|.unOp _ _ _|.makeFunc _ _ _|.slice _ _ _ _ _|.fieldAddr _ _ _|.field _ _ _|.indexAddr _ _ _|.index _ _ _|.extract _ _|.lookup _ _ _ _=>.pure
 |.convert _ d _=>match zB P d with
  |.slice _ _ _ _=>.eff
  |_=>.pure
 |.call c=>match c.callee with
  |.builtin .append=>.eff
  |.builtin .delete=>.eff
  |.builtin .unsafeSliceData=>.eff
  |.builtin .unsafeString=>.eff
  |.builtin .len=>.pure
  |.builtin .cap=>.pure
  |.builtin .min=>.pure
  |.builtin .max=>.pure
  |_=>.stop
 |_=>.stop
structure Ac where
 E:ey
 H:List Ob
 ok:Prop
def J6(n:Nat)(a:Option Tmp)(b:Ac)(r:Pv):Ac:=⟨eP b.E a r.v,b.H,b.ok/\gx n a/\r.ok⟩
def J7(n:Nat)(a:Option Tmp)(b:Ac)(g:Bool)(r:Pv):Ac:=⟨eP b.E a (.cnd g r.v),b.H,b.ok/\gx n a/\(g=true->r.ok)⟩
def J8(n:Nat)(a:Option Tmp)(b:Ac)(r:Ev):Ac:=⟨eP r.E a r.v,r.H,b.ok/\gx n a/\r.ok⟩
def FC:Ac:=⟨[],[],False⟩
def m5(P:Program)(d:List Bool)(n:Nat)(c:List Oper)(o:Oper)(a:Ac):Ac:=match o.guard with
 |none=>match Bd P o.op with
  |.pure=>J6 n o.dst a (fB P true a.E a.H o.op)
  |.eff=>J8 n o.dst a (gh P (eI d) a.E a.H o.op)
  |.stop=>FC
 |some (j,b)=>match Bd P o.op with
  |.pure=>match je c a.E j b with
   |some g=>J7 n o.dst a g (fB P g a.E a.H o.op)
   |none=>FC
  |_=>FC
def lM(P:Program)(o:Oper):Bool:=match Bd P o.op with
 |.stop=>true
 |_=>false
inductive Rr where
 |done (ac:Ac)
 |stop (l:List Oper) (ac:Ac)
def fv(P:Program)(b:List Bool)(n:Nat)(ops:List Oper):List Oper->Ac->Rr
 |[],a=>.done a
 |o::l,a=>if lM P o=true then .stop (o::l) a else fv P b n ops l (m5 P b n ops o a)
def fz(P:Program)(b:List Bool)(n:Nat)(B:Bs)(ops:Array Oper)(K:ey->List Ob->Prop):Rr->Prop
 |.done a=>a.ok/\K a.E a.H
 |.stop l a=>a.ok/\Rg P b n B ops l a.E a.H K
section
variable {P:Program} {kl:List Bool} {n:Nat} {B:Bs} {K:ey->List Ob->Prop} {E:ey} {H:List Ob} {ops:Array Oper}
theorem zY{a:Option Tmp}(h:gx n a):∀d,a=some d->d<n:=fun d e=>by subst e;exact h
theorem Rg.nil(h:K E H):Rg P kl n B ops [] E H K:=fun _ a w _ b c=>c E H a w h b
theorem Rg.eff{o:Oper}{l:List Oper}(k:o.guard=none)(g:gx n o.dst)(f:(gh P (eI kl) E H o.op).ok)(h:Rg P kl n B ops l (eP (gh P (eI kl) E H o.op).E o.dst (gh P (eI kl) E H o.op).v) (gh P (eI kl) E H o.op).H K) :
  Rg P kl n B ops (o::l) E H K:=by
 intro i a w Q m j;refine wpList_plain k fun p b=>?_;obtain⟨c,q,d,e⟩:=qA (cx P kl n B) E H o f a w m;unfold Oper.wp;rcases d with d|⟨d,rfl⟩
 .rw[d];exact b _ _ (h i _ _ _ (e.put o.dst (zY g)) j)
 .rw[d];exact b _ _ (h i _ _ _ (e.put o.dst (zY g)) j)
theorem Rg.pure{o:Oper}{l:List Oper}(k:o.guard=none)(m:gx n o.dst)(b:(fB P true E H o.op).ok)(h:Rg P kl n B ops l (eP E o.dst (fB P true E H o.op).v) H K) :
  Rg P kl n B ops (o::l) E H K:=by
 intro p a w Q q r;refine wpList_plain k fun y d=>?_;obtain⟨Kk,G,s,i,j,e,t,f⟩:=q;obtain⟨c,u,x⟩:=MA (P:=P) i j rfl o b;unfold Oper.wp;rw[u];have g:RelV (cx P kl n B) E H c (fB P true E H o.op).v a w:=⟨Kk,G,s,i,j,e,t,f,x⟩;exact d _ _ (h p _ _ _ (g.put o.dst (zY m)) r)
theorem sG{C:Cx}{a:Act}{w:World}(n:Rel C E H a w){o:Oper}{j:Nat}{b g:Bool}(i:o.guard=some (j,b))(hb:je ops.toList E j b=some g):Region.wanted o (yielded ops a.tmps)=g:=by
 obtain⟨K,G,r,s,p,_⟩:=n;unfold je at hb;split at hb;rotate_left
 .cases hb
 rename_i oj k;split at hb;rotate_left
 .cases hb
 rename_i d l;have f:ops[j]?=some oj:=by rw[<-Array.getElem?_toList];exact k
 have m:∀(t:Bool),a.tmps.getD d undef=.bool t->yielded ops a.tmps j=some t:=by
  intro t e;have:a.tmps[d]?=some (.bool t):=by
   rw[Array.getD_eq_getD_getElem?]at e;cases he:a.tmps[d]? with
   |none=>rw[he]at e;cases e
   |some v=>rw[he]at e;simpa using e
  simp[yielded,f,l,this]
 have q:a.tmps.getD d undef=undef->yielded ops a.tmps j=none:=by
  intro e;rw[Array.getD_eq_getD_getElem?]at e;cases he:a.tmps[d]? with
  |none=>simp[yielded,f,l,he]
  |some v=>rw[he]at e;simp at e;subst e;simp[yielded,f,l,he,undef]
 have h:=p d;split at hb
 .rename_i t e;cases hb;rw[e]at h;simp only[VR,DR]at h;simp only[Region.wanted,i,m t h];cases t <;> cases b <;> rfl
 .rename_i c t e;cases hb;rw[e]at h;simp only[VR,DR]at h;cases c
  .simp only[Region.wanted,i,q (h.2 rfl),Bool.false_and];rfl
  .simp only[Region.wanted,i,m t (h.1 rfl),Bool.true_and];cases t <;> cases b <;> rfl
 .cases hb
theorem dR{o:Oper}{l:List Oper}{j:Nat}{b g:Bool}(C:o.guard=some (j,b))(hb:je ops.toList E j b=some g)(s:gx n o.dst)(m:g=true->(fB P g E H o.op).ok)(h:Rg P kl n B ops l (eP E o.dst (.cnd g (fB P g E H o.op).v)) H K) :
  Rg P kl n B ops (o::l) E H K:=by
 intro t a w Q u x;have y:=sG u C hb;refine wpList_step fun I f=>?_;have p:=u;obtain⟨Kk,G,z,q,r,i,A,k⟩:=p;cases g with
 |true =>
  rw[if_pos y];obtain⟨c,D,F⟩:=MA (P:=P) q r rfl o (m rfl);unfold Oper.wp;rw[D];have d:RelV (cx P kl n B) E H c (.cnd true (fB P true E H o.op).v) a w:=⟨Kk,G,z,q,r,i,A,k,by simp only[VR];exact⟨fun _=>F,fun e=>Bool.noConfusion e⟩⟩;exact f _ _ (h t _ _ _ (d.put o.dst (zY s)) x)
 |false =>
  rw[if_neg (by rw[y];simp)];have d:RelV (cx P kl n B) E H undef (.cnd false (fB P false E H o.op).v) a w:=⟨Kk,G,z,q,r,i,A,k,by simp[VR]⟩;exact f _ _ (h t _ _ _ (d.put o.dst (zY s)) x)
theorem sU{o:Oper}{a:Ac}{b:List Oper}(h:(m5 P kl n b o a).ok):a.ok:=by
 unfold m5 at h;split at h
 .split at h
  .exact h.1
  .exact h.1
  .exact h.elim
 .split at h
  .split at h
   .exact h.1
   .exact h.elim
  .exact h.elim
theorem y0{o:Oper}{l:List Oper}{c:Ac}(a:(m5 P kl n ops.toList o c).ok)(h:Rg P kl n B ops l (m5 P kl n ops.toList o c).E (m5 P kl n ops.toList o c).H K):Rg P kl n B ops (o::l) c.E c.H K:=by
 unfold m5 at a h;split at a
 .rename_i b;simp only[b]at h;split at a
  .rename_i d;simp only[d]at h;exact Rg.pure b a.2.1 a.2.2 h
  .rename_i d;simp only[d]at h;exact Rg.eff b a.2.1 a.2.2 h
  .exact a.elim
 .rename_i j e b;simp only[b]at h;split at a
  .rename_i d;simp only[d]at h;split at a
   .rename_i g hb;simp only[hb]at h;exact dR b hb a.2.1 a.2.2 h
   .exact a.elim
  .exact a.elim
theorem Rk:∀{l:List Oper} {a:Ac} {b:List Oper},fz P kl n B ops K (fv P kl n b l a)->a.ok
 |[],a,b,h=>h.1
 |o::l,a,b,h=>by
  unfold fv at h;split at h
  .exact h.1
  .exact sU (Rk h)
theorem dL:∀{l:List Oper} {a:Ac},fz P kl n B ops K (fv P kl n ops.toList l a)->Rg P kl n B ops l a.E a.H K
 |[],a,h=>Rg.nil h.2
 |o::l,a,h=>by
  unfold fv at h;split at h
  .exact h.2
  .exact y0 (Rk h) (dL h)
theorem Rg.run{l:List Oper}(h:fz P kl n B ops K (fv P kl n ops.toList l ⟨E,H,True⟩)):Rg P kl n B ops l E H K:=dL h
theorem Wp.region{id:Nat}{l:List Oper}{Q:Qt}(h:∀K:ey->List Ob->Prop,(∀E H,Q .normal E H->K E H)->fz P kl n B l.toArray K (fv P kl n l l ⟨E,H,True⟩)):Wp P kl n B (.region id l.toArray false) Q E H:=by
 intro b a w c;refine wp_region_lit ?_;have:=Rg.run (ops:=l.toArray) (l:=l) (h (Q .normal) (fun _ _ h=>h));exact this b a w _ c fun d e i j f g=>⟨d,e,f,g⟩
end
mutual
def gf:Va->Va->Prop
 |v,.top=>v=v
 |.nils,.p (.l d)=>d=[]
 |.nils,.nils=>True
 |.full r,.p (.l d)=>r=d
 |.full r,.full d=>r=d
 |.p x,.p y=>x=y
 |.rp x,.rp y=>x=y
 |.ptr o a,.ptr b e=>o=b/\a=e
 |.cs o a,.cs b e=>o=b/\a=e
 |.el o s i a,.el b h k e=>o=b/\s=h/\i=k/\a=e
 |.buf o,.buf b=>o=b
 |.mp o,.mp b=>o=b
 |.np o,.np b=>o=b
 |.sd o,.sd b=>o=b
 |.vw o s a n,.vw b h e t=>o=b/\s=h/\a=e/\n=t
 |.bufc o c,.bufc b u=>o=b/\c=u
 |.bufc o _,.buf b=>o=b
 |.nv o i,.nv b k=>o=b/\i=k
 |.ne o s i j a,.ne b h k w e=>o=b/\s=h/\i=k/\j=w/\a=e
 |.nil,.np _=>True
 |.ptr o a,.np b=>o=b/\a=0
 |.nil,.nil=>True
 |.agg m,.agg q=>nO m q
 |.tup m,.tup q=>nO m q
 |.fn f m,.fn g q=>f=g/\nO m q
 |.raw x,.raw y=>x=y
 |.er x,.er y=>x=y
 |_,_=>False
def nO:List Va->List Va->Prop
 |[],[]=>True
 |x::a,y::b=>gf x y/\nO a b
 |_,_=>False
end
section
variable {K:Nat->Prop} {h:Array Obj} {G:List Gh}
mutual
theorem lD:∀{c:Value} {v z:Va},gf v z->VR K h G c v->VR K h G c z
 |c,v,.top,_,_=>by simp[VR]
 |c,.nils,.p (.l m),d,e=>by simp only[gf]at d;subst d;simp only[VR,DR]at *;exact .inl ⟨⟨none,e⟩,trivial⟩
 |c,.nils,.nils,_,e=>e
 |c,.full r,.p (.l m),d,e=>by simp only[gf]at d;subst d;simp only[VR]at *;exact e.1
 |c,.full r,.full m,d,e=>by simp only[gf]at d;subst d;exact e
 |c,.p x,.p y,d,e=>by
  have:x=y:=by cases y <;> simpa only[gf]using d
  subst this;exact e
 |c,.rp x,.rp y,d,e=>by simp only[gf]at d;subst d;exact e
 |c,.ptr o a,.ptr k u,d,e=>by simp only[gf]at d;obtain⟨rfl,rfl⟩:=d;exact e
 |c,.cs o a,.cs k u,d,e=>by simp only[gf]at d;obtain⟨rfl,rfl⟩:=d;exact e
 |c,.el o s i a,.el k A B u,d,e=>by simp only[gf]at d;obtain⟨rfl,rfl,rfl,rfl⟩:=d;exact e
 |c,.buf o,.buf k,d,e=>by simp only[gf]at d;subst d;exact e
 |c,.mp o,.mp k,d,e=>by simp only[gf]at d;subst d;exact e
 |c,.np o,.np k,d,e=>by simp only[gf]at d;subst d;exact e
 |c,.sd o,.sd k,d,e=>by simp only[gf]at d;subst d;exact e
 |c,.vw o s a n,.vw k A u F,d,e=>by simp only[gf]at d;obtain⟨rfl,rfl,rfl,rfl⟩:=d;exact e
 |c,.bufc o a,.bufc k u,d,e=>by simp only[gf]at d;obtain⟨rfl,rfl⟩:=d;exact e
 |c,.bufc o a,.buf k,d,e=>by simp only[gf]at d;subst d;simp only[VR]at *;obtain⟨g,a,n,w,q,t,E,_⟩:=e;exact⟨g,q,E,a,n,w,t⟩
 |c,.nv o i,.nv k B,d,e=>by simp only[gf]at d;obtain⟨rfl,rfl⟩:=d;exact e
 |c,.ne o s i j a,.ne k A B H u,d,e=>by simp only[gf]at d;obtain⟨rfl,rfl,rfl,rfl,rfl⟩:=d;exact e
 |c,.nil,.np k,_,e=>by simp only[VR]at *;exact .inl e
 |c,.ptr o a,.np k,d,e=>by simp only[gf]at d;obtain⟨rfl,rfl⟩:=d;simp only[VR]at *;exact .inr e
 |c,.nil,.nil,_,e=>e
 |c,.agg C,.agg D,d,e=>by
  simp only[gf,VR]at *;obtain⟨cs,q,t⟩:=e;exact⟨cs,q,Hf d t⟩
 |c,.tup C,.tup D,d,e=>by
  simp only[gf,VR]at *;obtain⟨cs,q,t⟩:=e;exact⟨cs,q,Hf d t⟩
 |c,.fn f C,.fn g D,d,e=>by
  simp only[gf,VR]at *;obtain⟨rfl,d⟩:=d;obtain⟨cs,q,t⟩:=e;exact⟨cs,q,Hf d t⟩
 |c,.raw x,.raw y,d,e=>by simp only[gf]at d;subst d;exact e
 |c,.er x,.er y,d,e=>by simp only[gf]at d;subst d;exact e
 |c,v,.cnd b x,d,_=>by cases v <;> simp[gf]at d
theorem Hf:∀{cs:List Value} {e a:List Va},nO e a->VRs K h G cs e->VRs K h G cs a
 |cs,[],[],_,b=>b
 |cs,x::k,y::l,f,b=>by simp only[nO,VRs]at *;obtain⟨c,d,g,i,j⟩:=b;exact⟨c,d,g,lD f.1 i,Hf f.2 j⟩
end
end
def Kp(E:ey):ey->Prop
 |[]=>True
 |(k,v)::a=>gf (eR E k) v/\Kp E a
def ql:Ob->Ob->Prop
 |.cells T t,.cells b l=>T=b/\nO t l
 |.buf T g r,.buf b a e=>T=b/\g=a/\r=e
 |.fx T g r,.fx b a e=>T=b/\g=a/\r=e
 |.sb T r,.sb b e=>T=b/\r=e
 |.mp i j,.mp c d=>i=c/\j=d
 |.mpb i j u m,.mpb c d n h=>i=c/\j=d/\u=n/\m=h
 |.mpb i j _ _,.mp c d=>i=c/\j=d
 |.it o m s,.it v h w=>o=v/\m=h/\s=w
 |.it _ _ _,.gone=>True
 |.nst f T g k p r x,.nst y b a z A e q=>f=y/\T=b/\g=a/\k=z/\p=A/\r=e/\x=q
 |.inn T g r,.inn b a e=>T=b/\g=a/\r=e
 |.nst f _ _ _ _ _ _,.gone=>f=false
 |.inn _ _ _,.gone=>True
 |.lost,.lost=>True
 |.sb _ _,.gone=>True
 |.buf _ _ _,.gone=>True
 |.gone,.gone=>True
 |_,_=>False
def leH:List Ob->List Ob->Prop
 |_,[]=>True
 |x::H,y::a=>ql x y/\leH H a
 |[],_::_=>False
def xH(f:Nat->Bool):ey->Bool
 |[]=>true
 |(_,v)::E=>v.all f&&xH f E
def iv(f:Nat->Bool):List Ob->Bool
 |[]=>true
 |x::H=>x.all f&&iv f H
def kM(c:List Bool)(E:ey)(H:List Ob)(b:ey)(a:List Ob):Prop :=
 Kp E b/\leH H a/\c.length<=a.length/\xH (fun o=>decide (o<a.length)) b=true/\iv (fun o=>decide (o<a.length)) a=true
theorem nP{x y:Ob}(h:ql x y)(a:x.kept=true):y.kept=true:=by cases x <;> cases y <;> simp_all[ql,Ob.kept]
theorem rI{E:ey}:∀{a:ey},Kp E a->∀m,eR a m=.top∨gf (eR E m) (eR a m)
 |[],_,m=>.inl rfl
 |(k,v)::a,h,m=>by
  simp only[Kp]at h;simp only[eR];split
  .rename_i e;subst e;exact .inr h.1
  .exact rI h.2 m
theorem oX{f:Nat->Bool}:∀{E:ey},xH f E=true->∀m,(eR E m).all f=true
 |[],_,m=>rfl
 |(k,v)::E,h,m=>by
  simp only[xH,Bool.and_eq_true]at h;simp only[eR];split
  .exact h.1
  .exact oX h.2 m
theorem He:∀{H b:List Ob},leH H b->∀(o:Nat) (y:Ob),b[o]?=some y->∃x,H[o]?=some x/\ql x y
 |_,[],_,o,y,h=>by simp at h
 |[],y::b,a,_,_,_=>by simp[leH]at a
 |x::H,y::b,a,o,z,h=>by
  simp only[leH]at a;cases o with
  |zero=>simp at h;subst h;exact⟨x,rfl,a.1⟩
  |succ o=>simpa using He a.2 o z (by simpa using h)
theorem Oi{f:Nat->Bool}:∀{H:List Ob},iv f H=true->∀(o:Nat) (y:Ob),H[o]?=some y->y.all f=true
 |[],_,o,y,h=>by simp at h
 |x::H,a,o,y,h=>by
  simp only[iv,Bool.and_eq_true]at a;cases o with
  |zero=>simp at h;subst h;exact a.1
  |succ o=>exact Oi a.2 o y (by simpa using h)
theorem Et{K:Nat->Prop}{h:Array Obj}{G:List Gh}{g:Gh}:∀{x y:Ob},ql x y->ObR K h G g x->ObR K h G g y
 |.cells T q,.cells _ m,⟨rfl,a⟩,⟨b,cs,d,e,f⟩=>⟨b,cs,d,e,Hf a f⟩
 |.buf T n r,.buf k i l,a,c=>by simp only[ql]at a;obtain⟨rfl,rfl,rfl⟩:=a;exact c
 |.fx T n r,.fx k i l,a,c=>by simp only[ql]at a;obtain⟨rfl,rfl,rfl⟩:=a;exact c
 |.mp _ _,.mp _ _,a,c=>by simp only[ql]at a;obtain⟨rfl,rfl⟩:=a;exact c
 |.mpb _ _ _ _,.mpb _ _ _ _,a,c=>by simp only[ql]at a;obtain⟨rfl,rfl,rfl,rfl⟩:=a;exact c
 |.mpb _ _ _ _,.mp _ _,a,c=>by
  simp only[ql]at a;obtain⟨rfl,rfl⟩:=a;obtain⟨o,b,j,d,e,f,p,_⟩:=c;exact⟨o,b,j,_,d,e,f,p⟩
 |.it _ _ _,.it _ _ _,a,c=>by simp only[ql]at a;obtain⟨rfl,rfl,rfl⟩:=a;exact c
 |.it _ _ _,.gone,_,_=>trivial
 |.sb T r,.sb k l,a,c=>by simp only[ql]at a;obtain⟨rfl,rfl⟩:=a;exact c
 |.buf _ _ _,.gone,_,_=>trivial
 |.sb _ _,.gone,_,_=>trivial
 |.gone,.gone,_,c=>c
 |.lost,.lost,_,c=>c
 |.nst _ _ _ _ _ _ _,.nst _ _ _ _ _ _ _,a,c=>by simp only[ql]at a;obtain⟨rfl,rfl,rfl,rfl,rfl,rfl,rfl⟩:=a;exact c
 |.inn _ _ _,.inn _ _ _,a,c=>by simp only[ql]at a;obtain⟨rfl,rfl,rfl⟩:=a;exact c
 |.nst _ _ _ _ _ _ _,.gone,_,_=>trivial
 |.inn _ _ _,.gone,_,_=>trivial
theorem St.cut{K:Nat->Prop}{G:List Gh}{H a:List Ob}{w:World}(d:St K G H w)(m:leH H a)(q:iv (fun o=>decide (o<a.length)) a=true):St K (G.take a.length) a w:=by
 have n:a.length<=H.length:=by
  rcases Nat.eq_zero_or_pos a.length with u|v
  .omega
  .obtain⟨x,f,_⟩:=He m (a.length-1) _ (getElem?_eq_getElem (by omega));have:=(List.getElem?_eq_some_iff.1 f).1;omega
 have sub:∀{o:Nat} {g:Gh},(G.take a.length)[o]?=some g->G[o]?=some g:=fun {o g} h=>by
  rw[getElem?_take]at h;split at h
  .exact h
  .cases h
 have i:Mg (fun o=>decide (o<a.length)) G (G.take a.length):=fun o g r c=>by rw[getElem?_take,if_pos (by simpa using r)];exact c
 refine⟨by rw[length_take,d.len];omega,d.kb,fun o g b c=>d.gbo o g b (sub c),fun o s g t b c j=>d.ijo o s g t b (sub c) (sub j),fun o g y c p=>?_,d.tb⟩;obtain⟨x,f,k⟩:=He m o y p;have l:=Et k (d.ob o g x (sub c) f);have e:=Oi q o y p;exact ObR.keep ⟨fun _ h=>h,fun _ _=>rfl⟩ i (fun _ _=>rfl) e l
theorem lG:∀{a:List Bool} {o:Nat},eI a o=true->o<a.length
 |[],o,h=>by simp[eI]at h
 |b::a,0,_=>by simp
 |b::a,o+1,h=>by simp only[eI]at h;simpa using lG h
section
variable {P:Program} {kl:List Bool} {n:Nat} {B:Bs} {Q:Qt} {E:ey} {H:List Ob} {a:Act} {w:World}
theorem Rel.cut{k:ey}{b:List Ob}(r:B.G0.length=kl.length)(h:Rel (cx P kl n B) E H a w)(s:kM kl E H k b):Rel (cx P kl n B) k b a w:=by
 obtain⟨K,G,t,u,v,y,z,A⟩:=h;obtain⟨C,l,p,D,F⟩:=s;have d:Mg (fun o=>decide (o<b.length)) G (G.take b.length):=fun o g c I=>by rw[getElem?_take,if_pos (by simpa using c)];exact I
 refine⟨K,G.take b.length,t.cut (by rw[r];exact p),u.cut l F,fun m=>?_,y,z,fun o c=>?_⟩
 .rcases rI C m with e|e
  .rw[e];simp[VR]
  .exact VR.keep ⟨fun _ h=>h,fun _ _=>rfl⟩ d _ _ (oX D m) (lD e (v m))
 .obtain⟨J,f,i⟩:=A o c;have:o<b.length:=Nat.lt_of_lt_of_le (lG c) p;obtain⟨x,q,j⟩:=He l o _ (getElem?_eq_getElem this);rw[f]at q;cases q;exact⟨_,getElem?_eq_getElem this,nP j i⟩
theorem Wp.weak{c:Code}{b:ey}{d:List Ob}(f:kM kl E H b d)(h:Wp P kl n B c Q b d):Wp P kl n B c Q E H:=fun e a w g=>h e a w (Rel.cut e g f)
theorem Wp.loop{S:Type}(b:S->ey)(d:S->List Ob)(f:S->Prop)(i:S->Nat){c:Code}(j:S)(v:kM kl E H (b j) (d j))(hi:f j)
  (g:∀s,f s->Wp P kl n B c (zz (fun l o=>∃h,f h/\i h<i s/\kM kl l o (b h) (d h)) Q) (b s) (d s)):Wp P kl n B (.loop c) Q E H:=by
 intro p a w q;refine wp_loop_ghost (fun m a w=>∃s,i s=m/\f s/\Rel (cx P kl n B) (b s) (d s) a w) (i j) ⟨j,rfl,hi,Rel.cut p q v⟩ ?_;intro m a w ⟨s,x,hs,q⟩;refine wp_mono (g s hs p a w q) ?_;intro e z A ⟨l,o,u,k⟩;cases e with
 |normal =>
  obtain⟨h,r,t,y⟩:=u;exact⟨i h,x ▸ t,h,rfl,r,Rel.cut p k y⟩
 |_=>exact⟨l,o,u,k⟩
mutual
def qG:Dt->Prop
 |.b _=>True
 |.i k n=>Fits k n
 |.s x=>x.length<=eE
 |.l c=>c.length<=eE/\yn c
 |.a d=>yj d
 |.r _=>True
def yj:List Dt->Prop
 |[]=>True
 |d::a=>qG d/\yj a
def yn:List (List Dt)->Prop
 |[]=>True
 |r::a=>yj r/\yn a
end
mutual
def Va.ok:Va->Prop
 |.p x=>qG x
 |.full a=>qG (.l a)
 |.rp b=>yj b
 |.agg c|.tup c=>dH c
 |_=>True
def dH:List Va->Prop
 |[]=>True
 |v::a=>v.ok/\dH a
end
def Qy(k:Nat):List (List Dt)->Prop
 |[]=>True
 |r::a=>yj (r.set k (.b false))/\Qy k a
def Qz:List (List (List Dt))->Prop
 |[]=>True
 |a::b=>(a.length<=eE/\yn a)/\Qz b
def Ob.ok:Ob->Prop
 |.cells _ d=>dH d
 |.buf _ _ a=>a.length<=eE/\yn a
 |.fx _ _ a=>a.length<=eE/\yn a
 |.mp _ b=>b.length<=eE
 |.mpb _ b _ _=>b.length<=eE
 |.it _ _ _=>True
 |.sb _ e=>e.length<=eE
 |.nst _ _ _ k _ a _=>a.length<=eE/\Qy k a
 |.inn _ _ c=>Qz c
 |.gone=>True
 |.lost=>True
end
section
variable {K:Nat->Prop} {h:Array Obj} {G:List Gh}
mutual
theorem DR.ok:∀{c:Value} {d:Dt},DR K h c d->qG d
 |_,.b _,_=>trivial
 |_,.i _ _,H=>by simp only[DR]at H;exact H.2
 |_,.s _,H=>by simp only[DR]at H;exact H.2
 |_,.l e,H=>by
  simp only[DR]at H;simp only[qG];rcases H with⟨_,rfl⟩|⟨b,f,g,cs,T,m,n,o,_,_,_,_,j,_,k⟩
  .exact⟨by simp,by simp only[yn]⟩
  .exact⟨j,DRss.ok k⟩
 |_,.a p,H=>by simp[DR]at H
 |_,.r _,_=>trivial
theorem DRs.ok:∀{cs:List Value} {ds:List Dt},DRs K h cs ds->yj ds
 |_,[],_=>trivial
 |_,d::ds,H=>by simp only[DRs]at H;obtain⟨v,a,_,b,c⟩:=H;exact⟨DR.ok b,DRs.ok c⟩
theorem DRss.ok{sz:Nat}:∀{cs:List Value} {c:List (List Dt)},DRss K h sz cs c->yn c
 |_,[],_=>trivial
 |_,r::c,H=>by simp only[DRss]at H;obtain⟨a,b,_,_,d,e⟩:=H;exact⟨DRs.ok d,DRss.ok e⟩
end
mutual
theorem VR.ok:∀{c:Value} {v:Va},VR K h G c v->v.ok
 |_,.p x,H=>by simp only[VR]at H;exact DR.ok H
 |_,.full b,H=>by simp only[VR]at H;exact DR.ok H.1
 |_,.rp d,H=>by simp only[VR]at H;obtain⟨_,_,_,_,_,_,_,_,_,_,e⟩:=H;exact DRs.ok e
 |_,.agg f,H=>by simp only[VR]at H;obtain⟨_,_,a⟩:=H;exact VRs.ok a
 |_,.tup f,H=>by simp only[VR]at H;obtain⟨_,_,a⟩:=H;exact VRs.ok a
 |_,.nils,_|_,.ptr _ _,_|_,.cs _ _,_|_,.el _ _ _ _,_|_,.buf _,_|_,.mp _,_|_,.np _,_|_,.sd _,_|_,.vw _ _ _ _,_|_,.bufc _ _,_|_,.nv _ _,_|_,.ne _ _ _ _ _,_|_,.fn _ _,_|_,.nil,_|_,.cnd _ _,_|_,.raw _,_|_,.er _,_|_,.top,_=>trivial
theorem VRs.ok:∀{cs:List Value} {vs:List Va},VRs K h G cs vs->dH vs
 |_,[],_=>trivial
 |_,v::vs,H=>by simp only[VRs]at H;obtain⟨c,a,_,b,d⟩:=H;exact⟨VR.ok b,VRs.ok d⟩
end
end
theorem Tf:∀{r:List Dt} {k:Nat} {x y:Dt},yj (r.set k x)->qG y->yj (r.set k y)
 |[],_,_,_,_,_=>trivial
 |_::_,0,_,_,h,a=>⟨a,h.2⟩
 |_::_,_+1,_,_,h,a=>⟨h.1,Tf h.2 a⟩
theorem rx{k:Nat}:∀{rows:List (List Dt)} {b:List Value},b.length=rows.length->yn (fT k rows b)->Qy k rows
 |[],_,_,_=>trivial
 |_::_,[],a,_=>by simp at a
 |_::_,_::_,a,h=>⟨Tf h.1 trivial,rx (by simpa using a) h.2⟩
theorem ry:∀{a:List (List (List Dt))},(∀(j:Nat) (rows:List (List Dt)),a[j]?=some rows->rows.length<=eE/\yn rows)->Qz a
 |[],_=>trivial
 |_::_,h=>⟨h 0 _ rfl,ry fun j rows b=>h (j+1) rows (by simpa using b)⟩
theorem ObR.ok{K:Nat->Prop}{h:Array Obj}{G:List Gh}{g:Gh}:∀{x:Ob},ObR K h G g x->x.ok
 |.cells _ _,⟨_,_,_,_,e⟩=>VRs.ok e
 |.buf _ _ _,⟨a,_,b,_⟩=>⟨a,DRss.ok b⟩
 |.fx _ _ _,⟨a,_,b,_⟩=>⟨a,DRss.ok b⟩
 |.mp _ _,h=>h.1
 |.mpb _ _ _ _,h=>h.1
 |.it _ _ _,_=>trivial
 |.sb _ _,⟨a,_⟩=>a
 |.gone,_=>trivial
 |.lost,_=>trivial
 |.nst _ _ _ _ _ _ _,⟨f,_,_,_,_,a,_,_,_,b,_⟩=>⟨f,rx a (DRss.ok b)⟩
 |.inn _ _ _,⟨_,l,i,_⟩=>ry fun j c d=>by have a:=(List.getElem?_eq_some_iff.1 d).1;obtain⟨k,_,b,_⟩:=i j _ c (getElem?_eq_getElem (by omega)) d;exact⟨k,DRss.ok b⟩
section
variable {P:Program} {kl:List Bool} {n:Nat} {B:Bs} {Q:Qt} {E:ey} {H:List Ob}
theorem dA{c:Code}(k:Nat)(h:(eR E k).ok->Wp P kl n B c Q E H):Wp P kl n B c Q E H:=by intro e a w d;have b:=d;obtain⟨K,G,_,_,f,_⟩:=b;exact h (VR.ok (f k)) e a w d
theorem ej{c:Code}(o:Nat)(h:(eD H o).ok->Wp P kl n B c Q E H):Wp P kl n B c Q E H:=by
 intro f a w d;have b:=d;obtain⟨K,G,_,i,_,_⟩:=b;refine h ?_ f a w d;rcases Classical.em (eD H o=.gone)with e|e
 .rw[e];trivial
 .obtain⟨g,_,j⟩:=i.ghost (zu rfl e);exact j.ok
end
def F2 (P:Program) (f:FuncId):Prop:=∃fn,P.funcs[f]?=some fn/\(fn.name == "runtime.NumGoroutine")=false/\fn.body.isNone=false
def kinds:List Ob->List Bool
 |[]=>[]
 |x::X=>x.kept::kinds X
theorem Sl:∀X:List Ob,(kinds X).length=X.length
 |[]=>rfl
 |x::X=>by simp[kinds,Sl X]
theorem ka:∀{X:List Ob} {o:Nat},eI (kinds X) o=true->∃x,X[o]?=some x/\x.kept=true
 |[],o,h=>by simp[kinds,eI]at h
 |x::X,0,h=>⟨x,rfl,by simpa [kinds,eI]using h⟩
 |x::X,o+1,h=>by simp only[kinds,eI]at h;simpa using ka h
theorem F4(X:List Ob):gg (eI (kinds X)) X:=fun _ h=>ka h
def Does(P:Program)(f:FuncId)(args:List Va)(X:List Ob)(a:Va->List Ob->Prop):Prop :=
 F2 P f/\∀K G w vals,St K G X w->VRs K w.heap G vals args ->
  Calls P f vals.toArray w fun e b=>∃c r d g h,e=.returned c/\a r d/\Ext (eI (kinds X)) K G w g h b/\St g h d b/\VR g b.heap h c r/\gg (eI (kinds X)) d
theorem Does.mono{P:Program}{f:FuncId}{args:List Va}{X:List Ob}{a Post':Va->List Ob->Prop}(h:Does P f args X a)(d:∀r b,a r b->Post' r b):Does P f args X Post' :=
 ⟨h.1,fun K G w vals e g=>(h.2 K G w vals e g).mono fun _ _ ⟨c,r,b,i,j,k,l,m⟩=>⟨c,r,b,i,j,k,d _ _ l,m⟩⟩
def pu(k:Nat):List (List Dt)->List (List (List Dt))->List (List Dt)
 |r::a,i::b=>r.set k (.l i)::pu k a b
 |_,_=>[]
def hJ(m:Nat)(H:List Ob):Ob->Option (List (List Dt))
 |.buf _ _ a=>some a
 |.nst _ _ _ k p a none=>if p<m then none else match eD H p with
  |.inn _ _ b=>if a.length=b.length then some (pu k a b)else none
  |_=>none
 |_=>none
mutual
def gJ(m:Nat)(H:List Ob):Va->Va
 |.buf o=>if o<m then .buf o else match hJ m H (eD H o)with
  |some a=>.p (.l a)
  |none=>.top
 |.nv o i=>if o<m then .nv o i else match eD H o with
  |.inn _ _ c=>.p (.l (c.getD i []))
  |_=>.top
 |.agg b=>.agg (yl m H b)
 |.tup b=>.tup (yl m H b)
 |.fn f b=>.fn f (yl m H b)
 |v=>v
def yl(m:Nat)(H:List Ob):List Va->List Va
 |[]=>[]
 |v::a=>gJ m H v::yl m H a
end
def Ed(m:Nat)(H:List Ob):Ob->Ob
 |.cells T a=>.cells T (yl m H a)
 |x=>x
def gl(m:Nat)(H:List Ob):List Ob->List Ob
 |[]=>[]
 |x::X=>Ed m H x::gl m H X
def pZ(P:Program)(E:ey)(H:List Ob):ResultVar->Pv
 |.tmp t=>⟨eR E t,True⟩
 |.cell a T=>match eB P T with
  |some b=>j8 b H (eR E a)
  |none=>eC
def iP(P:Program)(E:ey)(H:List Ob):List ResultVar->List Va×Prop
 |[]=>([],True)
 |r::a=>((pZ P E H r).v::(iP P E H a).1,(pZ P E H r).ok/\(iP P E H a).2)
def gY(P:Program)(E:ey)(H:List Ob)(rs:List ResultVar):Pv:=match rs with
 |[r]=>pZ P E H r
 |rs=>⟨.tup (iP P E H rs).1,(iP P E H rs).2⟩
def i6(P:Program)(b:List ResultVar)(m:Nat)(c:List Bool)(a:Va->List Ob->Prop)(E:ey)(H:List Ob):Prop :=
 (gY P E H b).ok/\c.length<=m/\m<=H.length/\(gJ m H (gY P E H b).v).all (fun o=>decide (o<m))=true/\iv (fun o=>decide (o<m)) (gl m H (H.take m))=true /\
  ∃r X,gf (gJ m H (gY P E H b).v) r/\leH (gl m H (H.take m)) X/\X.length=m/\r.all (fun o=>decide (o<m))=true/\iv (fun o=>decide (o<m)) X=true/\a r X
def s3(P:Program)(b:List ResultVar)(m:Nat)(c:List Bool)(a:Va->List Ob->Prop):Qt
 |.normal,E,H=>i6 P b m c a E H
 |.ret,E,H=>i6 P b m c a E H
 |_,_,_=>False
section
variable {K:Nat->Prop} {G:List Gh} {H:List Ob} {w:World} {P:Program}
def FW(K:Nat->Prop)(G:List Gh)(_:List Ob)(m:Nat)(b:Nat):Prop:=K b∨∃o g,m<=o/\G[o]?=some g/\own g b
theorem HA{K K':Nat->Prop}{h:Array Obj}{m:Option Nat}{n:Value}{T:TypeId}{sz:Nat}{rows:List (List Dt)}(d:bufR K h m n T sz rows)(o:∀b,K b->K' b)(hb:∀b,m=some b->K' b):DR K' h n (.l rows):=by
 obtain⟨a,p,e,q⟩:=d;simp only[DR];rcases q with⟨f,g,_⟩|⟨b,i,k,r,f,g,s,w,t,x,y,u⟩
 .exact .inl ⟨f,g⟩
 .refine .inr ⟨b,0,i,k,T,r,sz,p,f,hb b g,s,t,a,fun j v c=>?_,DRss.mono ⟨o,fun _ _=>rfl⟩ _ _ _ e⟩;rw[<-u,getElem?_take]at c;split at c
  .rw[Nat.zero_add,<-Array.getElem?_toList];exact c
  .cases c
theorem sk(c:St K G H w){o:Nat}{T:TypeId}{sz:Nat}{rows:List (List Dt)}(d:H[o]?=some (.buf T sz rows)){g:Gh}(e:G[o]?=some g){a:Nat->Prop}(f:∀b,K b->a b)(hb:∀b,g.blk=some b->a b):DR a w.heap g.sv (.l rows):=HA (c.ob o g _ e d) f hb
theorem pg{K c:Nat->Prop}{h:Array Obj}(e:∀b,K b->c b){v:Value}{d:Dt}(i:DR c h v d):∀{a:List Value} {r:List Dt} {k:Nat},DRs K h a (r.set k (.r v))->DRs c h a (r.set k d)
 |_,[],_,H=>by simpa [DRs]using H
 |a,x::r,0,H=>by
  simp only[set_cons_zero,DRs,DR]at H|-;obtain⟨u,f,rfl,⟨rfl,_⟩,g⟩:=H;exact⟨u,f,rfl,i,DRs.mono ⟨e,fun _ _=>rfl⟩ _ _ g⟩
 |a,x::r,k+1,H=>by simp only[set_cons_succ,DRs]at H|-;obtain⟨u,f,rfl,j,g⟩:=H;exact⟨u,f,rfl,DR.mono ⟨e,fun _ _=>rfl⟩ _ _ j,pg e i g⟩
theorem ls{K K':Nat->Prop}{h:Array Obj}(g:∀b,K b->K' b){sz k:Nat}:∀{c:List Value} {rows:List (List Dt)} {vs:List Value} {ins:List (List (List Dt))},DRss K h sz c (fT k rows vs)->vs.length=rows.length->rows.length=ins.length ->
  (∀(j:Nat) (v:Value) (i:List (List Dt)),vs[j]?=some v->ins[j]?=some i->DR K' h v (.l i))->DRss K' h sz c (pu k rows ins)
 |c,[],vs,ins,H,d,e,_=>by cases vs <;> simp_all[fT,pu,DRss]
 |c,r::rows,[],ins,H,d,e,_=>by simp at d
 |c,r::rows,v::vs,[],H,d,e,_=>by simp at e
 |c,r::rows,v::vs,i::ins,H,d,e,hi=>by simp only[fT,DRss,pu]at H|-;obtain⟨a,b,rfl,f,m,n⟩:=H;exact⟨a,b,rfl,by simpa using f,pg g (hi 0 v i rfl rfl) m,ls g n (by simpa using d) (by simpa using e) fun j v i o f=>hi (j+1) v i (by simpa using o) (by simpa using f)⟩
theorem Al(y:St K G H w){f:Bool}{o p:Nat}{T I:TypeId}{sz k e:Nat}{rows:List (List Dt)}{ins:List (List (List Dt))}(J:H[o]?=some (.nst f T sz k p rows none))(L:H[p]?=some (.inn I e ins))(z:rows.length=ins.length){g:Gh}(M:G[o]?=some g){K':Nat->Prop}(A:∀b,K b->K' b)
  (hb:∀b,own g b->K' b) (h:∀B b,G[p]?=some B->own B b->K' b):DR K' w.heap g.sv (.l (pu k rows ins)):=by
 obtain⟨Y,Z,m,vs,C,D,N,O⟩:=y.ob o g _ M J;obtain⟨e1,e2,P,_⟩:=y.ob p m _ C L;have c:∀j:Nat,vs[j]?=m.inn[j]?:=fun j=>N.2.1 j (by simp);have n:(pu k rows ins).length=(fT k rows vs).length/\(pu k rows ins).length=rows.length:=by
  have:∀{rows:List (List Dt)} {vs:List Value} {ins:List (List (List Dt))},vs.length=rows.length->rows.length=ins.length->(pu k rows ins).length=(fT k rows vs).length/\(pu k rows ins).length=rows.length:=by
   intro rows;induction rows with
   |nil=>intro vs ins _ _;cases vs <;> simp[pu,fT]
   |cons r rows Q =>
    intro vs ins a b;cases vs with
    |nil=>simp at a
    |cons v vs=>cases ins with
     |nil=>simp at b
     |cons i ins =>
      have:=Q (vs:=vs) (ins:=ins) (by simpa using a) (by simpa using b);simp only[pu,fT,length_cons];omega
  exact this D z
 obtain⟨E,R,q,S⟩:=O;have U:=ls (K':=K') A q D z fun j v i F hi=>HA (P j v i (by rw[<-c j];exact F) hi) A fun b hb=>h m b C (.inr ⟨v,mem_of_getElem? (by rw[<-c j];exact F),hb⟩);simp only[DR];rcases S with⟨s,t,_⟩|⟨b,u,x,V,s,t,W,f4,f5,f6,f7,X⟩
 .refine .inl ⟨s,eq_nil_of_length_eq_zero ?_⟩;rw[t]at n;simpa using n.1
 .refine .inr ⟨b,0,u,x,T,V,sz,R,by rw[n.1];exact s,hb b (.inl t),W,by omega,by omega,fun j v d=>?_,U⟩;rw[<-X,getElem?_take]at d;split at d
  .rw[Nat.zero_add,<-Array.getElem?_toList];exact d
  .cases d
def GS:Ob->Nat
 |.buf _ a _=>a
 |.nst _ _ a _ _ _ _=>a
 |_=>0
theorem vE(r:St K G H w){m o:Nat}{rows:List (List Dt)}(h:hJ m H (eD H o)=some rows){g:Gh}{b:Nat}(y:G[o]?=some g)(c:g.blk=some b){K':Nat->Prop}(s:∀b,K b->K' b)(hm:∀z A b,m<=z->G[z]?=some A->own A b->K' b) :
  ∃a T f xs,w.heap[b]?=some (.cells a T f)/\DRss K' w.heap (GS (eD H o)) xs rows/\a.toList.take (rows.length*GS (eD H o))=xs:=by
 unfold hJ at h;split at h
 .rename_i k;cases h;obtain⟨l,xs,d,t⟩:=r.ob o g _ y (zu k (by simp));rcases t with⟨_,_,e⟩|⟨L,u,a,f,M,n,e,B,C,S,U,N⟩
  .rw[c]at e;cases e
  .rw[c]at n;cases n;rw[k];exact⟨a,_,f,xs,e,DRss.mono ⟨s,fun _ _=>rfl⟩ _ _ _ d,N⟩
 .rename_i k;split at h
  .cases h
  rename_i O;split at h
  .rename_i hi;split at h
   .rename_i P;cases h;obtain⟨V,M,x,Q,n,e,B,C⟩:=r.ob o g _ y (zu k (by simp));obtain⟨W,X,R,_⟩:=r.ob _ x _ n (zu hi (by simp));have p:∀j:Nat,Q[j]?=x.inn[j]?:=fun j=>B.2.1 j (by simp);obtain⟨l,xs,d,t⟩:=C;have D:=ls (K':=K') s d e P fun j v i E hi=>HA (R j v i (by rw[<-p j];exact E) hi) s fun b hb=>hm _ x b (by omega) n (.inr ⟨v,mem_of_getElem? (by rw[<-p j];exact E),hb⟩);rcases t with⟨_,_,q⟩|⟨L,u,a,f,Y,F,q,Z,f5,f6,f7,I⟩
    .rw[c]at q;cases q
    .rw[c]at F;cases F;rw[k];refine⟨a,_,f,xs,q,D,?_⟩;have:=d.length;have J:=D.length;simp only[GS];rw[<-I,length_take]at this J;rw[show(pu _ _ _).length*_=_ from by rw[<-J,<-this]];rw[<-I];congr 1;omega
   .cases h
  .cases h
 .cases h
theorem jY(f:St K G H w){m o:Nat}{rows:List (List Dt)}(h:hJ m H (eD H o)=some rows){g:Gh}(a:G[o]?=some g){K':Nat->Prop}(i:∀b,K b->K' b)(hm:∀j c b,m<=j->G[j]?=some c->own c b->K' b)(k:m<=o):DR K' w.heap g.sv (.l rows):=by
 unfold hJ at h;split at h
 .rename_i d;cases h;exact sk f (zu d (by simp)) a i fun b hb=>hm o g b k a (.inl hb)
 .rename_i d;split at h
  .cases h
  rename_i n;split at h
  .rename_i hi;split at h
   .rename_i p;cases h;exact Al f (zu d (by simp)) (zu hi (by simp)) p a i (fun b hb=>hm o g b k a hb) fun c b e hb=>hm _ c b (by omega) e hb
   .cases h
  .cases h
 .cases h
mutual
theorem rv(q:St K G H w)(m:Nat):∀{c:Value} {v:Va},VR K w.heap G c v->VR (FW K G H m) w.heap G c (gJ m H v)
 |c,.p x,h=>VR.grow (K:=K) ⟨fun _ h=>.inl h,fun _ _=>rfl⟩ (fun _ _ h=>h) c (.p x) h
 |c,.nils,h=>VR.grow (K:=K) ⟨fun _ h=>.inl h,fun _ _=>rfl⟩ (fun _ _ h=>h) c .nils h
 |c,.full d,h=>VR.grow (K:=K) ⟨fun _ h=>.inl h,fun _ _=>rfl⟩ (fun _ _ h=>h) c (.full d) h
 |c,.rp y,h=>VR.grow (K:=K) ⟨fun _ h=>.inl h,fun _ _=>rfl⟩ (fun _ _ h=>h) c (.rp y) h
 |c,.ptr o a,h=>VR.grow (K:=K) ⟨fun _ h=>.inl h,fun _ _=>rfl⟩ (fun _ _ h=>h) c (.ptr o a) h
 |c,.cs o a,h=>VR.grow (K:=K) ⟨fun _ h=>.inl h,fun _ _=>rfl⟩ (fun _ _ h=>h) c (.cs o a) h
 |c,.el o s i a,h=>VR.grow (K:=K) ⟨fun _ h=>.inl h,fun _ _=>rfl⟩ (fun _ _ h=>h) c (.el o s i a) h
 |c,.np o,h=>VR.grow (K:=K) ⟨fun _ h=>.inl h,fun _ _=>rfl⟩ (fun _ _ h=>h) c (.np o) h
 |c,.sd o,h=>VR.grow (K:=K) ⟨fun _ h=>.inl h,fun _ _=>rfl⟩ (fun _ _ h=>h) c (.sd o) h
 |c,.vw o s a n,h=>VR.grow (K:=K) ⟨fun _ h=>.inl h,fun _ _=>rfl⟩ (fun _ _ h=>h) c (.vw o s a n) h
 |c,.bufc o s,h=>VR.grow (K:=K) ⟨fun _ h=>.inl h,fun _ _=>rfl⟩ (fun _ _ h=>h) c (.bufc o s) h
 |c,.ne o s i j a,h=>VR.grow (K:=K) ⟨fun _ h=>.inl h,fun _ _=>rfl⟩ (fun _ _ h=>h) c (.ne o s i j a) h
 |c,.mp o,h=>VR.grow (K:=K) ⟨fun _ h=>.inl h,fun _ _=>rfl⟩ (fun _ _ h=>h) c (.mp o) h
 |c,.nil,h=>VR.grow (K:=K) ⟨fun _ h=>.inl h,fun _ _=>rfl⟩ (fun _ _ h=>h) c .nil h
 |c,.cnd t v,h=>VR.grow (K:=K) ⟨fun _ h=>.inl h,fun _ _=>rfl⟩ (fun _ _ h=>h) c (.cnd t v) h
 |c,.raw v,h=>VR.grow (K:=K) ⟨fun _ h=>.inl h,fun _ _=>rfl⟩ (fun _ _ h=>h) c (.raw v) h
 |c,.er v,h=>VR.grow (K:=K) ⟨fun _ h=>.inl h,fun _ _=>rfl⟩ (fun _ _ h=>h) c (.er v) h
 |c,.top,h=>VR.grow (K:=K) ⟨fun _ h=>.inl h,fun _ _=>rfl⟩ (fun _ _ h=>h) c .top h
 |c,.buf o,h=>by
  simp only[gJ];split
  .exact VR.grow (K:=K) ⟨fun _ h=>.inl h,fun _ _=>rfl⟩ (fun _ _ h=>h) c (.buf o) h
  .rename_i B;split
   .rename_i d e;simp only[VR]at h;obtain⟨g,u,rfl,_⟩:=h;simp only[VR];exact jY q e u (fun _ h=>.inl h) (fun C D b k l E=>.inr ⟨C,D,k,l,E⟩) (by omega)
   .simp[VR]
 |c,.nv o i,h=>by
  simp only[gJ];split
  .exact VR.grow (K:=K) ⟨fun _ h=>.inl h,fun _ _=>rfl⟩ (fun _ _ h=>h) c (.nv o i) h
  .rename_i B;split
   .rename_i T M r e;have F:=zu e (by simp);simp only[VR]at h;obtain⟨g,a,n,I,u,hi,rfl⟩:=h;obtain⟨N,O,J,_⟩:=q.ob o g _ u F;have L:=(List.getElem?_eq_some_iff.1 hi).1;have z:r[i]?=some (r.getD i []):=by rw[getElem?_eq_getElem (by omega),getD_eq_getElem?_getD,getElem?_eq_getElem (by omega)];rfl
    simp only[VR];exact HA (J i _ _ hi z) (fun _ h=>.inl h) fun b hb=>.inr ⟨o,g,by omega,u,.inr ⟨_,mem_of_getElem? hi,hb⟩⟩
   .simp[VR]
 |c,.agg A,h=>by simp only[gJ,VR]at *;obtain⟨cs,k,l⟩:=h;exact⟨cs,k,Hv q m l⟩
 |c,.tup A,h=>by simp only[gJ,VR]at *;obtain⟨cs,k,l⟩:=h;exact⟨cs,k,Hv q m l⟩
 |c,.fn f A,h=>by simp only[gJ,VR]at *;obtain⟨cs,k,l⟩:=h;exact⟨cs,k,Hv q m l⟩
theorem Hv(d:St K G H w)(m:Nat):∀{cs:List Value} {a:List Va},VRs K w.heap G cs a->VRs (FW K G H m) w.heap G cs (yl m H a)
 |cs,[],h=>by simpa only[yl,VRs]using h
 |cs,v::a,h=>by simp only[yl,VRs]at *;obtain⟨c,b,e,f,g⟩:=h;exact⟨c,b,e,rv d m f,Hv d m g⟩
end
theorem OD(m:Nat)(a:List Ob):∀{X:List Ob} {o:Nat} {y:Ob},(gl m a X)[o]?=some y->∃x,X[o]?=some x/\y=Ed m a x
 |[],o,y,h=>by simp[gl]at h
 |x::X,0,y,h=>by simp[gl]at h;exact⟨x,rfl,h.symm⟩
 |x::X,o+1,y,h=>by simp only[gl,getElem?_cons_succ]at h|-;exact OD m a h
theorem RU(m:Nat)(a:List Ob):∀X:List Ob,(gl m a X).length=X.length
 |[]=>rfl
 |x::X=>by simp[gl,RU m a X]
theorem St.out(i:St K G H w){m:Nat}(B:iv (fun o=>decide (o<m)) (gl m H (H.take m))=true):St (FW K G H m) (G.take m) (gl m H (H.take m)) w:=by
 have sub:∀{o:Nat} {g:Gh},(G.take m)[o]?=some g->o<m/\G[o]?=some g:=fun {o g} h=>by
  rw[getElem?_take]at h;split at h
  .exact⟨by assumption,h⟩
  .cases h
 have d:Mg (fun o=>decide (o<m)) G (G.take m):=fun o g C e=>by rw[getElem?_take,if_pos (by simpa using C)];exact e
 refine⟨by rw[RU,length_take,length_take,i.len],fun b hb=>?_,fun o g b e hb=>?_,fun o q g r b e l=>i.ijo o q g r b (sub e).2 (sub l).2,fun o g y e z=>?_,i.tb.mono ⟨fun _ h=>.inl h,fun _ _=>rfl⟩⟩
 .rcases hb with hb|⟨o,g,_,e,hb⟩
  .exact i.kb b hb
  .exact(i.gbo o g b e hb).1
 .refine⟨(i.gbo o g b (sub e).2 hb).1,fun s=>?_⟩;rcases s with s|⟨q,r,D,l,t⟩
  .exact(i.gbo o g b (sub e).2 hb).2 s
  .have:=i.ijo o q g r b (sub e).2 l hb t;have:=(sub e).1;omega
 .obtain⟨x,n,rfl⟩:=OD m H z
  have u:H[o]?=some x:=by
   rw[getElem?_take]at n;split at n
   .exact n
   .cases n
  have c:=i.ob o g x (sub e).2 u;have a:=Oi B o _ z;cases x with
  |cells T P =>
   obtain⟨b,cs,E,F,I⟩:=c;exact⟨b,cs,E,F,VRs.keep ⟨fun _ h=>h,fun _ _=>rfl⟩ d _ _ a (Hv i m I)⟩
  |buf T v j=>exact ObR.keep (K:=K) ⟨fun _ h=>.inl h,fun _ _=>rfl⟩ d (fun _ _=>rfl) a c
  |fx T v j=>exact ObR.keep (K:=K) ⟨fun _ h=>.inl h,fun _ _=>rfl⟩ d (fun _ _=>rfl) a c
  |sb T J=>exact ObR.keep (K:=K) ⟨fun _ h=>.inl h,fun _ _=>rfl⟩ d (fun _ _=>rfl) a c
  |mp L M=>exact ObR.keep (K:=K) ⟨fun _ h=>.inl h,fun _ _=>rfl⟩ d (fun _ _=>rfl) a c
  |mpb L M J N=>exact ObR.keep (K:=K) ⟨fun _ h=>.inl h,fun _ _=>rfl⟩ d (fun _ _=>rfl) a c
  |it o N A=>exact ObR.keep (K:=K) ⟨fun _ h=>.inl h,fun _ _=>rfl⟩ d (fun _ _=>rfl) a c
  |nst f T v k p j Q=>exact ObR.keep (K:=K) ⟨fun _ h=>.inl h,fun _ _=>rfl⟩ d (fun _ _=>rfl) a c
  |inn T v O=>exact ObR.keep (K:=K) ⟨fun _ h=>.inl h,fun _ _=>rfl⟩ d (fun _ _=>rfl) a c
  |gone=>exact c
  |lost=>exact c
def vG(b:Array Value):ResultVar->Sem Value
 |.tmp t=>pure (b.getD t undef)
 |.cell a t=>do loadVar t (<-asAddr (b.getD a undef))
theorem ri{E:ey}{a:Act}(g:St K G H w)(f:ja K w.heap G a E){r:ResultVar}(b:(pZ P E H r).ok) :
  ∃c,(vG a.tmps r).run P w=.ok c w/\VR K w.heap G c (pZ P E H r).v:=by
 cases r with
 |tmp t=>exact⟨_,rfl,f t⟩
 |cell x T =>
  simp only[pZ]at b|-;split at b;rotate_left
  .exact b.elim
  rename_i j h;obtain⟨c,e,i⟩:=nJ (P:=P) h g (f x) b;refine⟨c,?_,i⟩;simp only[vG];generalize a.tmps.getD x undef=d at e|-;cases d <;> simp only[Instr.loadAt,Instr.sureAddr,asAddr]at e|-
  case pointer p =>
   cases p with
   |none=>simp at e
   |some p=>simpa using e
  all_goals simp at e
theorem rh{E:ey}{a:Act}(e:St K G H w)(f:ja K w.heap G a E):∀{d:List ResultVar},(iP P E H d).2->∃cs,(d.mapM (vG a.tmps)).run P w=.ok cs w/\VRs K w.heap G cs (iP P E H d).1
 |[],_=>⟨[],by simp,by simp[iP,VRs]⟩
 |r::d,b=>by simp only[iP]at b|-;obtain⟨c,g,h⟩:=ri (P:=P) e f b.1;obtain⟨cs,i,j⟩:=rh e f b.2;refine⟨c::cs,?_,by simp only[VRs];exact⟨c,cs,rfl,h,j⟩⟩;rw[mapM_cons];simp only[Sem.run_bind,g,i,Result.andThen_ok,Sem.run_pure]
theorem y9{E:ey}{a:Act}(n:St K G H w)(o:ja K w.heap G a E){fn:Func}(b:(gY P E H fn.results.toList).ok):∃c,(results fn a.tmps).run P w=.ok c w/\VR K w.heap G c (gY P E H fn.results.toList).v:=by
 have e:∀{cs:List Value},(fn.results.toList.mapM (vG a.tmps)).run P w=.ok cs w ->
   (results fn a.tmps).run P w=.ok (if h:cs.length=1 then cs[0]else .tuple cs.toArray) w:=by
  intro cs h;show(do let g <-fn.results.mapM (vG a.tmps);pure (if h:g.size=1 then g[0]else .tuple g):Sem Value).run P w=_;rw[Array.mapM_eq_mapM_toList];simp only[Sem.run_bind,Sem.run_map,h,Result.andThen_ok,Sem.run_pure];simp
 unfold gY at b|-;split at b
 .rename_i r p;obtain⟨c,i,f⟩:=ri (P:=P) n o b;refine⟨c,?_,f⟩;rw[e (cs:=[c]) (by rw[p,mapM_cons];simp only[mapM_nil,Sem.run_bind,i,Result.andThen_ok,Sem.run_pure])];rfl
 .rename_i d j;obtain⟨cs,i,f⟩:=rh (P:=P) n o b;have q:=f.length
  have k:∀d,(iP P E H d).1.length=d.length:=by
   intro d;induction d with
   |nil=>rfl
   |cons r d s=>simp[iP,s]
  have l:¬ cs.length=1:=by
   rw[q,k];intro h;match m:fn.results.toList,h with
   |[r],_=>exact j r m
  refine⟨.tuple cs.toArray,?_,by simp only[VR];exact⟨cs,rfl,f⟩⟩;rw[e i,dif_neg l]
end
def hU:Nat->List Va->ey
 |_,[]=>[]
 |k,v::a=>(k,v)::hU (k+1) a
theorem kn{K:Nat->Prop}{h:Array Obj}{G:List Gh}:∀{cs:List Value} {b:List Va} (k m:Nat),VRs K h G cs b->VR K h G (if k<=m then cs.getD (m-k) undef else undef) (eR (hU k b) m)
 |cs,[],k,m,_=>by simp[hU,eR,VR]
 |cs,v::b,k,m,H=>by
  simp only[VRs]at H;obtain⟨c,f,rfl,g,i⟩:=H;simp only[hU,eR];by_cases e:k=m
  .subst e;simpa using g
  .rw[if_neg e];have a:=kn (k+1) m i;by_cases d:k<=m
   .rw[if_pos (by omega)]at a;rw[if_pos d,show m-k=(m-(k+1))+1 by omega];simpa using a
   .rw[if_neg (by omega)]at a;rw[if_neg d];exact a
theorem Ext.out{kp:Nat->Bool}{c K:Nat->Prop}{a G:List Gh}{d w:World}{H:List Ob}(h:Ext kp c a d K G w){m:Nat}(hm:a.length<=m):Ext kp c a d (FW K G H m) (G.take m) w :=
 { h.cut hm with
  k:=fun b hb=>.inl (h.k b hb)
  knew:=fun b hb=>by
   rcases hb with hb|⟨o,g,f,e,hb⟩
   .exact h.knew b hb
   .exact .inr (h.gown o g b e hb) }
theorem dn {P:Program} {f:FuncId} {fn:Func} {code:Code} {args:List Va} {X:List Ob} {Post:Va->List Ob->Prop} (m n:Nat) (T:List ResultVar) (U:P.funcs[f]?=some fn) (hb:fn.body=some code) (A:(fn.name == "runtime.NumGoroutine")=false) (hn:fn.ntmps=n) (C:fn.results.toList=T) (hl:args.length<=n)
  (h:∀B,Wp P (kinds X) n B code (s3 P T m (kinds X) Post) (hU 0 args) X):Does P f args X Post:=by
 subst hn;subst C;refine⟨⟨fn,U,A,by rw[hb];rfl⟩,fun K G w vals V W=>?_⟩;have hvl:=W.length;refine calls_of_wp U hb ?_;have Y:G.length=(kinds X).length:=by rw[Sl,V.len]
 have hR:Rel (cx P (kinds X) fn.ntmps ⟨K,G,w⟩) (hU 0 args) X { tmps:=vals.toArray++Array.replicate (fn.ntmps-vals.toArray.size) undef,defers:=[] } w:=by
  refine⟨K,G,Ext.refl _ _ _ _,V,fun j=>?_,rfl,by simp;omega,F4 X⟩;have:=kn (K:=K) (h:=w.heap) (G:=G) 0 j W;simp only[Nat.zero_le,if_true,Nat.sub_zero]at this;have e:(vals.toArray++Array.replicate (fn.ntmps-vals.toArray.size) undef).getD j undef=vals.getD j undef:=by
   rw[Array.getD_eq_getD_getElem?,getD_eq_getElem?_getD,Array.getElem?_append];split
   .simp
   .rename_i hj;rw[getElem?_eq_none (by simpa using hj),Array.getElem?_replicate];split <;> rfl
  rw[e];exact this
 refine wp_mono (h ⟨K,G,w⟩ Y _ _ hR) ?_;intro e a k ⟨E,H,b,D⟩;have q:i6 P fn.results.toList m (kinds X) Post E H->a.defers=[]/\∃v,(results fn a.tmps).run P k=.ok v k/\∃c r X' F I,Ending.returned v=.returned c/\Post r X'/\Ext (eI (kinds X)) K G w F I k/\St F I X' k/\VR F k.heap I c r/\gg (eI (kinds X)) X':=by
  intro b;obtain⟨h1,Z,h3,h4,h5,r,X',h6,h7,y,h9,J,L⟩:=b;obtain⟨K1,p,hX,d,hE,hd,_,hk⟩:=D;obtain⟨c,hc,hv⟩:=y9 (P:=P) d hE h1;have M:G.length<=m:=by rw[Y];exact Z
  have N:Mg (fun o=>decide (o<m)) p (p.take m):=fun o g z hg=>by rw[getElem?_take,if_pos (by simpa using z)];exact hg
  have O:VR (FW K1 p H m) k.heap (p.take m) c (gJ m H (gY P E H fn.results.toList).v):=VR.keep ⟨fun _ h=>h,fun _ _=>rfl⟩ N _ _ h4 (rv d m hv);have Q:=d.out h5;have s:=Q.cut h7 (by rw[y];exact J);rw[y,take_take,Nat.min_self]at s;refine⟨hd,c,hc,c,r,X',FW K1 p H m,p.take m,rfl,L,hX.out M,s,lD h6 O,fun o z=>?_⟩;obtain⟨vs,R,t⟩:=hk o z;have i:o<m:=Nat.lt_of_lt_of_le (lG z) Z;obtain⟨x,hx,S⟩:=He h7 o _ (getElem?_eq_getElem (by rw[y];exact i));obtain⟨x0,u,rfl⟩:=OD m H hx;rw[getElem?_take,if_pos i,R]at u;cases u;exact⟨_,getElem?_eq_getElem (by rw[y];exact i),nP S (by cases vs <;> first|rfl|exact t|cases t)⟩
 cases e with
 |normal=>exact q b
 |ret=>exact q b
 |exit id=>exact b.elim
 |goto l=>exact b.elim
 |panic ch=>exact b.elim
 |outgrown=>exact b.elim
mutual
def g8:Va->Option Va
 |.p x=>some (.p x)
 |.nils=>some (.p (.l []))
 |.full a=>some (.p (.l a))
 |.rp d=>some (.rp d)
 |.nil=>some .nil
 |.raw v=>some (.raw v)
 |.er v=>some (.er v)
 |.top=>some .top
 |.fn f b=>match uz b with
  |some c=>some (.fn f c)
  |none=>none
 |.agg b=>match uz b with
  |some c=>some (.agg c)
  |none=>none
 |.tup b=>match uz b with
  |some c=>some (.tup c)
  |none=>none
 |_=>none
def uz:List Va->Option (List Va)
 |[]=>some []
 |v::a=>match g8 v,uz a with
  |some u,some b=>some (u::b)
  |_,_=>none
end
mutual
def g7(H:List Ob):Va->Option Va
 |.p x=>some (.p x)
 |.nils=>some (.p (.l []))
 |.full a=>some (.p (.l a))
 |.rp e=>some (.rp e)
 |.nil=>some .nil
 |.raw v=>some (.raw v)
 |.er v=>some (.er v)
 |.top=>some .top
 |.buf o=>match hJ 0 H (eD H o)with
  |some a=>some (.p (.l a))
  |none=>none
 |.nv o i=>match eD H o with
  |.inn _ _ g=>some (.p (.l (g.getD i [])))
  |_=>none
 |.el o h i b=>match hJ 0 H (eD H o)with
  |some a=>if GS (eD H o)=h then some (.rp ((a.getD i []).drop b))else none
  |none=>none
 |.ptr o b=>match eD H o with
  |.cells _ c=>match fe c with
   |some j=>some (.rp (j.drop b))
   |none=>none
  |_=>none
 |.fn f c=>match js H c with
  |some d=>some (.fn f d)
  |none=>none
 |.agg c=>match js H c with
  |some d=>some (.agg d)
  |none=>none
 |.tup c=>match js H c with
  |some d=>some (.tup d)
  |none=>none
 |_=>none
def js(H:List Ob):List Va->Option (List Va)
 |[]=>some []
 |v::a=>match g7 H v,js H a with
  |some u,some b=>some (u::b)
  |_,_=>none
end
mutual
def Va.flat:Va->Bool
 |.p (.b _)|.p (.i _ _)|.p (.s _)|.nil|.raw _|.er _|.top|.nils=>true
 |.agg a|.tup a=>dx a
 |_=>false
def dx:List Va->Bool
 |[]=>true
 |v::a=>v.flat&&dx a
end
section
variable {K:Nat->Prop} {h:Array Obj} {G:List Gh}
mutual
theorem vQ:∀{c:Value} {v u:Va},g8 v=some u->VR K h G c v->VR K h [] c u
 |c,.p x,u,a,b=>by simp only[g8]at a;cases a;simpa only[VR]using b
 |c,.nils,u,a,b=>by simp only[g8]at a;cases a;simp only[VR,DR]at *;exact .inl ⟨⟨none,b⟩,trivial⟩
 |c,.full i,u,a,b=>by simp only[g8]at a;cases a;simp only[VR]at *;exact b.1
 |c,.rp l,u,a,b=>by simp only[g8]at a;cases a;simpa only[VR]using b
 |c,.nil,u,a,b=>by simp only[g8]at a;cases a;simpa only[VR]using b
 |c,.raw v,u,a,b=>by simp only[g8]at a;cases a;simpa only[VR]using b
 |c,.er v,u,a,b=>by simp only[g8]at a;cases a;simpa only[VR]using b
 |c,.top,u,a,b=>by simp only[g8]at a;cases a;simp[VR]
 |c,.fn f j,u,a,b=>by
  simp only[g8]at a;split at a
  .rename_i k d;cases a;simp only[VR]at *;obtain⟨cs,e,g⟩:=b;exact⟨cs,e,HI d g⟩
  .cases a
 |c,.agg j,u,a,b=>by
  simp only[g8]at a;split at a
  .rename_i k d;cases a;simp only[VR]at *;obtain⟨cs,e,g⟩:=b;exact⟨cs,e,HI d g⟩
  .cases a
 |c,.tup j,u,a,b=>by
  simp only[g8]at a;split at a
  .rename_i k d;cases a;simp only[VR]at *;obtain⟨cs,e,g⟩:=b;exact⟨cs,e,HI d g⟩
  .cases a
 |c,.ptr _ _,u,a,_=>by simp[g8]at a
 |c,.cs _ _,u,a,_=>by simp[g8]at a
 |c,.el _ _ _ _,u,a,_=>by simp[g8]at a
 |c,.buf _,u,a,_=>by simp[g8]at a
 |c,.mp _,u,a,_=>by simp[g8]at a
 |c,.np _,u,a,_=>by simp[g8]at a
 |c,.sd _,u,a,_=>by simp[g8]at a
 |c,.vw _ _ _ _,u,a,_=>by simp[g8]at a
 |c,.bufc _ _,u,a,_=>by simp[g8]at a
 |c,.nv _ _,u,a,_=>by simp[g8]at a
 |c,.ne _ _ _ _ _,u,a,_=>by simp[g8]at a
 |c,.cnd _ _,u,a,_=>by simp[g8]at a
theorem HI:∀{cs:List Value} {d b:List Va},uz d=some b->VRs K h G cs d->VRs K h [] cs b
 |cs,[],b,a,e=>by simp only[uz]at a;cases a;simpa only[VRs]using e
 |cs,v::d,b,a,e=>by
  simp only[uz]at a;split at a
  .rename_i u g i j;cases a;simp only[VRs]at *;obtain⟨c,f,k,l,m⟩:=e;exact⟨c,f,k,vQ i l,HI j m⟩
  .cases a
end
mutual
theorem Ha{g:Nat->Prop}{j:Array Obj}{l:List Gh}:∀{c:Value} {v:Va},v.flat=true->VR K h G c v->VR g j l c v
 |c,.p (.b x),_,a=>by simpa only[VR,DR]using a
 |c,.p (.i k n),_,a=>by simpa only[VR,DR]using a
 |c,.p (.s x),_,a=>by simpa only[VR,DR]using a
 |c,.nil,_,a=>by simpa only[VR]using a
 |c,.nils,_,a=>by simpa only[VR]using a
 |c,.raw v,_,a=>by simpa only[VR]using a
 |c,.er v,_,a=>by simpa only[VR]using a
 |c,.top,_,_=>by simp[VR]
 |c,.agg m,d,a=>by simp only[VR,Va.flat]at *;obtain⟨cs,e,f⟩:=a;exact⟨cs,e,On d f⟩
 |c,.tup m,d,a=>by simp only[VR,Va.flat]at *;obtain⟨cs,e,f⟩:=a;exact⟨cs,e,On d f⟩
theorem On{f:Nat->Prop}{g:Array Obj}{i:List Gh}:∀{cs:List Value} {a:List Va},dx a=true->VRs K h G cs a->VRs f g i cs a
 |cs,[],_,b=>by simpa only[VRs]using b
 |cs,v::a,e,b=>by simp only[VRs,dx,Bool.and_eq_true]at *;obtain⟨c,d,j,k,l⟩:=b;exact⟨c,d,j,Ha e.1 k,On e.2 l⟩
end
end
def uv(K:Nat->Prop)(G:List Gh)(b:Nat):Prop:=K b∨∃(o:Nat) (g:Gh),G[o]?=some g/\own g b
section
variable {K:Nat->Prop} {w:World} {G:List Gh} {H:List Ob}
mutual
theorem wm(z:St K G H w):∀{c:Value} {v u:Va},g7 H v=some u->VR K w.heap G c v->VR (uv K G) w.heap [] c u
 |c,.p x,u,d,k=>by simp only[g7]at d;cases d;exact VR.keep (K:=K) (f:=fun _=>false) ⟨fun _ h=>.inl h,fun _ _=>rfl⟩ (fun _ _ h=>Bool.noConfusion h) c (.p x) rfl k
 |c,.nils,u,d,k=>by simp only[g7]at d;cases d;simp only[VR,DR]at *;exact .inl ⟨⟨none,k⟩,trivial⟩
 |c,.full m,u,d,k=>by simp only[g7]at d;cases d;simp only[VR]at *;exact DR.mono ⟨fun _ h=>.inl h,fun _ _=>rfl⟩ _ _ k.1
 |c,.rp E,u,d,k=>by simp only[g7]at d;cases d;exact VR.keep (K:=K) (f:=fun _=>false) ⟨fun _ h=>.inl h,fun _ _=>rfl⟩ (fun _ _ h=>Bool.noConfusion h) c (.rp E) rfl k
 |c,.nil,u,d,k=>by simp only[g7]at d;cases d;simpa only[VR]using k
 |c,.raw v,u,d,k=>by simp only[g7]at d;cases d;simpa only[VR]using k
 |c,.er v,u,d,k=>by simp only[g7]at d;cases d;simpa only[VR]using k
 |c,.top,u,d,k=>by simp only[g7]at d;cases d;simp[VR]
 |c,.buf o,u,d,k=>by
  simp only[g7]at d;split at d
  .rename_i m l;cases d;simp only[VR]at k;obtain⟨g,s,rfl,_⟩:=k;simp only[VR];exact jY z l s (fun _ h=>.inl h) (fun F I b _ q A=>.inr ⟨F,I,q,A⟩) (Nat.zero_le _)
  .cases d
 |c,.nv o i,u,d,k=>by
  simp only[g7]at d;split at d
  .rename_i T W B l;cases d;have X:=zu l (by simp);simp only[VR]at k;obtain⟨g,a,n,J,s,hi,rfl⟩:=k;obtain⟨e1,e2,Y,_⟩:=z.ob o g _ s X;have Z:=(List.getElem?_eq_some_iff.1 hi).1;have L:B[i]?=some (B.getD i []):=by rw[getElem?_eq_getElem (by omega),getD_eq_getElem?_getD,getElem?_eq_getElem (by omega)];rfl
   simp only[VR];exact HA (Y i _ _ hi L) (fun _ h=>.inl h) fun b hb=>.inr ⟨o,g,s,.inr ⟨_,mem_of_getElem? hi,hb⟩⟩
  .cases d
 |c,.el o W i off,u,d,k=>by
  simp only[g7]at d;split at d
  .rename_i m l;split at d
   .rename_i M;cases d;simp only[VR]at k;obtain⟨g,b,n,J,s,r,hsv,rfl⟩:=k;obtain⟨N,T,fr,xs,y,q,A⟩:=vE (K':=uv K G) z l s r (fun _ h=>.inl h) (fun F I b _ q A=>.inr ⟨F,I,q,A⟩);subst M;have U:uv K G b:=.inr ⟨o,g,s,.inl r⟩;rcases Nat.lt_or_ge i m.length with hi|hi
    .obtain⟨O,hrl⟩:=q.get i hi
     exact MB (off:=i*GS (eD H o)) U y (fun j v t=>by
      rw[getElem?_take]at t;split at t
      .rw[getElem?_drop,<-A,getElem?_take]at t;split at t
       .rw[<-Array.getElem?_toList];exact t
       .cases t
      .cases t) O off
    .have e:m.getD i []=[]:=by rw[getD_eq_getElem?_getD,getElem?_eq_none hi];rfl
     rw[e];simp only[drop_nil,VR];exact⟨b,_,N,T,fr,[],rfl,U,y,by simp,by simp[DRs]⟩
   .cases d
  .cases d
 |c,.ptr o off,u,d,k=>by
  simp only[g7]at d;split at d
  .rename_i P l;split at d
   .rename_i ds Q;cases d;simp only[VR]at k;obtain⟨g,b,s,r,rfl⟩:=k;obtain⟨b',cs,C,hb,R⟩:=z.ob o g _ s (zu l (by simp));obtain rfl:b'=b:=by rw[r]at C;exact(Option.some.inj C).symm
    have O:=pj R Q;have S:DRs (uv K G) w.heap cs ds:=DRs.mono ⟨fun _ h=>.inl h,fun _ _=>rfl⟩ _ _ O;have:=MB (K:=uv K G) (G:=[]) (off:=0) (.inr ⟨o,g,s,.inl r⟩) hb (fun j v t=>by rw[Nat.zero_add];simpa using t) S off;simpa using this
   .cases d
  .cases d
 |c,.cs _ _,u,d,_=>by simp[g7]at d
 |c,.fn f P,u,d,k=>by
  simp only[g7]at d;split at d
  .rename_i V D;cases d;simp only[VR]at *;obtain⟨cs,y,q⟩:=k;exact⟨cs,y,yF z D q⟩
  .cases d
 |c,.agg P,u,d,k=>by
  simp only[g7]at d;split at d
  .rename_i V D;cases d;simp only[VR]at *;obtain⟨cs,y,q⟩:=k;exact⟨cs,y,yF z D q⟩
  .cases d
 |c,.tup P,u,d,k=>by
  simp only[g7]at d;split at d
  .rename_i V D;cases d;simp only[VR]at *;obtain⟨cs,y,q⟩:=k;exact⟨cs,y,yF z D q⟩
  .cases d
 |c,.ne _ _ _ _ _,u,d,_=>by simp[g7]at d
 |c,.mp _,u,d,_=>by simp[g7]at d
 |c,.np _,u,d,_=>by simp[g7]at d
 |c,.sd _,u,d,_=>by simp[g7]at d
 |c,.vw _ _ _ _,u,d,_=>by simp[g7]at d
 |c,.bufc _ _,u,d,_=>by simp[g7]at d
 |c,.cnd _ _,u,d,_=>by simp[g7]at d
theorem yF(g:St K G H w):∀{cs:List Value} {d b:List Va},js H d=some b->VRs K w.heap G cs d->VRs (uv K G) w.heap [] cs b
 |cs,[],b,a,e=>by simp only[js]at a;cases a;simpa only[VRs]using e
 |cs,v::d,b,a,e=>by
  simp only[js]at a;split at a
  .rename_i u h i j;cases a;simp only[VRs]at *;obtain⟨c,f,k,l,m⟩:=e;exact⟨c,f,k,wm g i l,yF g j m⟩
  .cases a
end
theorem St.nil(hb:∀b,K b->b<w.heap.size)(a:TabOk K w.heap):St K [] [] w :=
 ⟨rfl,hb,fun o g b h=>by simp at h,fun o c g d b h=>by simp at h,fun o g x h=>by simp at h,a⟩
theorem MU(a:St K G H w):∀b,uv K G b->b<w.heap.size:=fun b hb=>by
 rcases hb with h|⟨o,g,c,d⟩
 .exact a.kb b h
 .exact(a.gbo o g b c d).1
theorem St.after{i j:Nat->Prop}{k:List Gh}{w':World}{l:Nat->Bool}(a:St K G H w)(e:Ext l i [] w j k w'):St K G H w':=by
 have f:∀b,b<w.heap.size->w'.heap[b]?=w.heap[b]?:=fun b hb=>e.frame b hb (fun o m h=>by simp at h);exact⟨a.len,fun b hb=>Nat.lt_of_lt_of_le (a.kb b hb) e.size,fun o g b c d=>⟨Nat.lt_of_lt_of_le (a.gbo o g b c d).1 e.size,(a.gbo o g b c d).2⟩,a.ijo,
  fun o g x c d=>ObR.keep ⟨fun _ h=>h,fun b hb=>f b (a.kb b hb)⟩ (Mg.refl (fun _=>true) G) (fun b hb=>f b (a.gbo o g b c hb).1) (Ob.all_true _) (a.ob o g x c d),a.tb.mono ⟨fun _ h=>h,fun b hb=>f b (a.kb b hb)⟩⟩
end
section
variable {P:Program} {kl:List Bool} {n:Nat} {B:Bs} {K:ey->List Ob->Prop} {E:ey} {H:List Ob} {ops:Array Oper}
theorem Gb{o:Oper}{c:Call}{d:Operand}{f:FuncId}{cs:List Value}{a:Act}{w:World}(j:o.op=.call c)(i:c.callee=.value d)(k:a.eval d=.func (.func f) #[] cs.toArray)(g:F2 P f) :
  (execOp a.eval o).run P w=.ok (.enter f ((c.args.toList.map a.eval)++cs).toArray) w:=by
 obtain⟨h,args,b⟩:=c;obtain⟨l,op,q,pos,r,s⟩:=o;cases j;simp only at i;subst i;obtain⟨fn,m,n,p⟩:=g;have e:args.map a.eval=(args.toList.map a.eval).toArray:=by cases args;simp
 simp only[execOp,resolve,k,Deferred.ofValue,Sem.run_bind,Sem.run_pure,Result.andThen_ok,invoke,callFunc,run_program,m,n,p,Bool.false_eq_true,if_false];simp
theorem Rg.call{o:Oper}{l:List Oper}{c:Call}{j:Operand}{f:FuncId}{p args:List Va}{q:Va->List Ob->Prop}(hs:Does P f args [] q)(ho:o.op=.call c)(hg:o.guard=none)(hc:c.callee=.value j)(hd:gx n o.dst)
  (y:opOk true E j/\allOk true E c.args.toList) (hf:opnd E j=.fn f p) (hp:uz (opnds E c.args.toList++p)=some args)
  (z:∀r J,q r J->r.ok->J=[]/\Rg P kl n B ops l (eP E o.dst r) H K):Rg P kl n B ops (o::l) E H K:=by
 intro hB a w Q hR hK;refine wpList_plain hg fun K' M=>?_;obtain⟨Kk,G,hX,A,N,O,hn,R⟩:=hR;have s:=zG N rfl j y.1;rw[hf]at s;simp only[VR]at s;obtain⟨cs,S,T⟩:=s;have t:=x9 N rfl c.args.toList y.2;have C:=HI hp (t.append T);unfold Oper.wp;rw[Gb ho hc S hs.1];simp only[Oper.upon];refine(hs.2 Kk [] w _ (St.nil A.kb A.tb) C).mono ?_;rintro e w' ⟨c',r,J,L,G1,rfl,u,d,v,Z,_⟩;obtain⟨rfl,U⟩:=z r J u Z.ok;have V:G1=[]:=by have:=v.len;simpa using this
 subst V
 -- K1 and the caller's own objects
 have D:∀b,L b->Kk b∨w.heap.size<=b:=fun b hb=>(d.knew b hb).imp id fun h=>h.elim (fun⟨_,_,h,_⟩=>by simp at h) id;have fr:∀b,b<w.heap.size->w'.heap[b]?=w.heap[b]?:=fun b hb=>d.frame b hb (fun o g0 h=>by simp at h);have i:=A.after d;have W:St L G H w':=⟨i.len,v.kb,fun o g b F I=>⟨(i.gbo o g b F I).1,fun hk=>by
   rcases D b hk with h|h
   .exact(i.gbo o g b F I).2 h
   .have:=(A.gbo o g b F I).1;omega⟩,i.ijo,
  fun o g x F I=>ObR.keep ⟨d.k,fun _ _=>rfl⟩ (Mg.refl (fun _=>true) G) (fun _ _=>rfl) (Ob.all_true _) (i.ob o g x F I),v.tb⟩
 have X:Ext (eI kl) B.K0 B.G0 B.w0 L G w':=by
  refine hX.trans { Ext.refl (eI kl) Kk G w with
   os:=d.os,tape:=d.tape,output:=d.output,size:=d.size,k:=d.k,knew:=fun b hb=>(D b hb).imp id .inr,frame:=fun b hb _=>fr b hb }
 have Y:RelV (cx P kl n B) E H c' r a w':=⟨L,G,X,W,fun m=>VR.keep (f:=fun _=>true) ⟨d.k,fun b hb=>fr b (A.kb b hb)⟩ (Mg.refl _ G) _ _ (Va.all_true _) (N m),O,hn,R,VR.grow ⟨fun _ h=>h,fun _ _=>rfl⟩ (fun o g h=>by simp at h) _ _ Z⟩;exact M _ _ (U hB _ _ _ (Y.put o.dst (zY hd)) hK)
theorem eo{o:Oper}{l:List Oper}{c:Call}{g:Operand}{f:FuncId}{i args:List Va}{j:Va->List Ob->Prop}(hs:Does P f args [] j)(R:o.op=.call c)(S:o.guard=none)(T:c.callee=.value g)(U:gx n o.dst)
  (t:opOk true E g/\allOk true E c.args.toList) (V:opnd E g=.fn f i) (W:js H (opnds E c.args.toList++i)=some args)
  (u:∀r y,j r y->r.ok->r.flat=true/\Rg P kl n B ops l (eP E o.dst r) H K):Rg P kl n B ops (o::l) E H K:=by
 intro X a w Q Y Z;refine wpList_plain S fun K' z=>?_;obtain⟨Kk,G,hX,v,A,C,hn,D⟩:=Y;have k:=zG A rfl g t.1;rw[V]at k;simp only[VR]at k;obtain⟨cs,F,I⟩:=k;have p:=x9 A rfl c.args.toList t.2;have x:=yF v W (p.append I);unfold Oper.wp;rw[Gb R T F hs.1];simp only[Oper.upon];refine(hs.2 (uv Kk G) [] w _ (St.nil (MU v) (v.tb.mono ⟨fun _ h=>.inl h,fun _ _=>rfl⟩)) x).mono ?_;rintro e w' ⟨c',r,y,K1,G1,rfl,q,d,hS1,N,_⟩;obtain⟨s,J⟩:=u r y q N.ok;have O:∀b,b<w.heap.size->w'.heap[b]?=w.heap[b]?:=fun b hb=>d.frame b hb (fun o g0 h=>by simp at h);have L:Ext (eI kl) B.K0 B.G0 B.w0 Kk G w':=by
  refine hX.trans { Ext.refl (eI kl) Kk G w with
   os:=d.os,tape:=d.tape,output:=d.output,size:=d.size,frame:=fun b hb _=>O b hb }
 have M:RelV (cx P kl n B) E H c' r a w':=⟨Kk,G,L,v.after d,fun m=>VR.keep (f:=fun _=>true) ⟨fun _ h=>h,fun b hb=>O b (v.kb b hb)⟩ (Mg.refl _ G) _ _ (Va.all_true _) (A m),C,hn,D,Ha s N⟩;exact z _ _ (J X _ _ _ (M.put o.dst (zY U)) Z)
theorem Rg.callG{o:Oper}{l:List Oper}{c:Call}{i:Operand}{f:FuncId}{k args:List Va}{j:Nat}{p g:Bool}(r:Va)(hs:g=true->Does P f args [] fun I X=>I=r/\X=[])(ho:o.op=.call c)(hg:o.guard=some (j,p))(hb:je ops.toList E j p=some g)(hc:c.callee=.value i)(R:gx n o.dst)
  (y:opOk g E i/\allOk g E c.args.toList) (hf:opnd E i=.fn f k) (hp:js H (opnds E c.args.toList++k)=some args) (s:r.flat=true)
  (q:(g=true->r.ok)->Rg P kl n B ops l (eP E o.dst (.cnd g r)) H K):Rg P kl n B ops (o::l) E H K:=by
 intro S a w Q T U;have V:=sG T hg hb;refine wpList_step fun K' z=>?_;have J:=T;obtain⟨Kk,G,W,x,F,A,Y,C⟩:=J;cases g with
 |true =>
  rw[if_pos V];have hs:=hs rfl;have t:=zG F rfl i y.1;rw[hf]at t;simp only[VR]at t;obtain⟨cs,L,M⟩:=t;have u:=x9 F rfl c.args.toList y.2;have D:=yF x hp (u.append M);unfold Oper.wp;rw[Gb ho hc L hs.1];simp only[Oper.upon];refine(hs.2 (uv Kk G) [] w _ (St.nil (MU x) (x.tb.mono ⟨fun _ h=>.inl h,fun _ _=>rfl⟩)) D).mono ?_;rintro e w' ⟨c',I,X',K1,G1,rfl,⟨rfl,rfl⟩,d,hS1,Z,_⟩;have N:=q fun _=>Z.ok;have fr:∀b,b<w.heap.size->w'.heap[b]?=w.heap[b]?:=fun b hb=>d.frame b hb (fun o g0 h=>by simp at h);have O:Ext (eI kl) B.K0 B.G0 B.w0 Kk G w':=by
   refine W.trans { Ext.refl (eI kl) Kk G w with
    os:=d.os,tape:=d.tape,output:=d.output,size:=d.size,frame:=fun b hb _=>fr b hb }
  have v:RelV (cx P kl n B) E H c' (.cnd true I) a w':=⟨Kk,G,O,x.after d,fun m=>VR.keep (f:=fun _=>true) ⟨fun _ h=>h,fun b hb=>fr b (x.kb b hb)⟩ (Mg.refl _ G) _ _ (Va.all_true _) (F m),A,Y,C,by simp only[VR];exact⟨fun _=>Ha s Z,fun e=>Bool.noConfusion e⟩⟩;exact z _ _ (N S _ _ _ (v.put o.dst (zY R)) U)
 |false =>
  rw[if_neg (by rw[V];simp)];have v:RelV (cx P kl n B) E H undef (.cnd false r) a w:=⟨Kk,G,W,x,F,A,Y,C,by simp[VR]⟩;exact z _ _ (q (fun e=>Bool.noConfusion e) S _ _ _ (v.put o.dst (zY R)) U)
end
def Is{α:Type}(x y:α):Prop:=x=y
theorem Is.mk{α:Type}{x:α}:Is x x:=rfl
def x7(E:ey)(o:Oper):Option (FuncId×List Va):=match o.op,o.guard with
 |.call c,none=>match c.callee with
  |.value b=>match opnd E b with
   |.fn f a=>some (f,opnds E c.args.toList++a)
   |_=>none
  |_=>none
 |_,_=>none
def tJ(E:ey)(o:Oper):Option (FuncId×List Va×Nat×Bool):=match o.op,o.guard with
 |.call c,some (j,a)=>match c.callee with
  |.value d=>match opnd E d with
   |.fn f b=>some (f,opnds E c.args.toList++b,j,a)
   |_=>none
  |_=>none
 |_,_=>none
def ie(n:Nat)(g:Bool)(E:ey)(o:Oper):Prop:=match o.op with
 |.call c=>match c.callee with
  |.value a=>gx n o.dst/\opOk g E a/\allOk g E c.args.toList
  |_=>False
 |_=>False
theorem NC{E:ey}{o:Oper}{f:FuncId}{av:List Va}(h:x7 E o=some (f,av)):∃c a caps,o.op=.call c/\o.guard=none/\c.callee=.value a/\opnd E a=.fn f caps/\av=opnds E c.args.toList++caps:=by
 unfold x7 at h;split at h;rotate_left
 .cases h
 rename_i c b d;split at h;rotate_left
 .cases h
 rename_i a e;split at h;rotate_left
 .cases h
 rename_i i caps g;cases h;exact⟨c,a,caps,b,d,e,g,rfl⟩
theorem qQ{n:Nat}{E:ey}{o:Oper}{g:Bool}(h:ie n g E o){c:Call}{a:Operand}(b:o.op=.call c)(d:c.callee=.value a):gx n o.dst/\opOk g E a/\allOk g E c.args.toList:=by simpa only[ie,b,d]using h
section
variable {P:Program} {kl:List Bool} {n:Nat} {B:Bs} {K:ey->List Ob->Prop} {E:ey} {H:List Ob} {ops:Array Oper} {Q:Qt}
theorem db{id:Nat}{l:List Oper}{y:Code}(h:∀K:ey->List Ob->Prop,(∀E H,Wp P kl n B y Q E H->K E H)->fz P kl n B l.toArray K (fv P kl n l l ⟨E,H,True⟩)):Wp P kl n B (.seq (.region id l.toArray false) y) Q E H :=
 Wp.seq fun _ d=>Wp.region fun e a=>h e fun b c f=>a b c (d b c f)
theorem Rg.callF{o:Oper}{l:List Oper}{f:FuncId}{av args:List Va}{v:Va}(hs:Does P f args [] fun r X=>r=v/\X=[])(i:Is (x7 E o) (some (f,av)))(j:Is (uz av) (some args))(b:ie n true E o)
  (a:v.ok->fz P kl n B ops K (fv P kl n ops.toList l ⟨eP E o.dst v,H,True⟩)):Rg P kl n B ops (o::l) E H K:=by
 obtain⟨c,k,d,e,m,g,p,rfl⟩:=NC i;obtain⟨q,s⟩:=qQ b e g;exact Rg.call hs e m g q s p j fun r w ⟨h,t⟩ u=>⟨t,h ▸ Rg.run (a (h ▸ u))⟩
end
theorem Ae(a b:Bool):(bif a then true else b)=(a||b):=by cases a <;> rfl
theorem vO(a b:Bool):(bif a then b else false)=(a&&b):=by cases a <;> rfl
theorem QD{α:Type}(a b:List α):(List.append a b).length=a.length+b.length:=length_append
theorem LR{b:Builtin}{args:Array Operand}{a:Array TypeId}:(Call.operands ⟨.builtin b,args,a⟩).toList=args.toList:=by simp[Call.operands]
theorem LQ{f:Operand}{args:Array Operand}{a:Array TypeId}:(Call.operands ⟨.value f,args,a⟩).toList=f::args.toList:=by simp[Call.operands]
theorem LU(a:Bool):(a == true)=a:=by cases a <;> rfl
theorem LV(a:Bool):(a == false)=!a:=by cases a <;> rfl
theorem QA(a:Bool):((!a)=true)=(a=false):=by cases a <;> simp
theorem Ki(n:Nat):eD [] n=.gone:=rfl
attribute [go_sem high] rn ro
attribute [go_sem low] Af
attribute [go_sem] fv lM Bd m5 J6 J8 J7 fz fB opnd opOk eN ub xe cv mY FL eR eP hU gx je also xu i5 xv vP oOk allOk partsOk partsV opnds gh kP g6 yh iO xC tV s5 xm wd Re lenN hJ GS eq_self nF jx oA L8 nI gW jd kQ EB te iX iF LC Fv Bw xz xG kV mP QB oL oJ ia Ab Kf s4 qq vS Fr Ce Bu Bx BB hI hQ oQ FU uu Cw ni j8 Hs HY i0 iU Hp xX me I9 oE oD Kb I8 uZ sr wn i3 Kl Ej qy gS eD sC wc tT wD iD setR ib FO iZ Cp BF pn fe fZ fF Va.prune de Va.all dp Ob.prune eI kinds Ob.kept fJ jF gn gu Va.isCell uC x7 tJ ie g8 uz g7 js Va.flat dx zI fE zz zw Kp leH ql gf nO xH iv Ob.all kM s3 i6 gY iP pZ gJ yl Ed gl Va.ok dH Ob.ok qG yj QD LR LQ Ae vO LU LV QA Option.map_none Option.map_some Bool.false_eq_true if_false if_true true_and and_true Nat.zero_add Nat.add_zero imp_self forall_const implies_true getElem?_cons_zero getElem?_cons_succ ite_true ite_false cond_true cond_false map_cons map_nil length_cons length_nil take_succ_cons take_zero take_nil drop_succ_cons drop_zero drop_nil
  cons_append nil_append set_cons_zero set_cons_succ getD_cons_zero getD_cons_succ decide_true decide_false Bool.and_true Bool.true_and Bool.not_true Bool.not_false Nat.lt_irrefl not_false_eq_true ne_eq append_nil Bool.and_self
def Agree(a:List Operand)(E b:ey):Prop:=∀x∈a,eN E x=eN b x
section
variable {P:Program} {g:Bool} {E E':ey} {H:List Ob}
theorem Agree.opnd{x:Operand}(h:eN E x=eN E' x):Vc.opnd E x=Vc.opnd E' x:=by unfold Vc.opnd;rw[h]
theorem Agree.opOk{x:Operand}(h:eN E x=eN E' x):Vc.opOk g E x=Vc.opOk g E' x:=by unfold Vc.opOk;rw[h]
theorem Agree.opnds:∀{a:List Operand},Agree a E E'->Vc.opnds E a=Vc.opnds E' a
 |[],_=>rfl
 |x::a,h=>by simp only[Vc.opnds];rw[Agree.opnd (h x (by simp)),Agree.opnds fun y b=>h y (by simp[b])]
theorem Agree.allOk:∀{a:List Operand},Agree a E E'->Vc.allOk g E a=Vc.allOk g E' a
 |[],_=>rfl
 |x::a,h=>by simp only[Vc.allOk];rw[Agree.opOk (h x (by simp)),Agree.allOk fun y b=>h y (by simp[b])]
theorem Agree.partsV:∀{a:List (Nat×Operand)},(∀x∈a,eN E x.2=eN E' x.2)->Vc.partsV E a=Vc.partsV E' a
 |[],_=>rfl
 |x::a,h=>by simp only[Vc.partsV];rw[Agree.opnd (h x (by simp)),Agree.partsV fun y b=>h y (by simp[b])]
theorem Agree.partsOk:∀{xs:List (Nat×Operand)},(∀x∈xs,eN E x.2=eN E' x.2)->Vc.partsOk g E xs=Vc.partsOk g E' xs
 |[],_=>rfl
 |x::xs,h=>by simp only[Vc.partsOk];rw[Agree.opOk (h x (by simp)),Agree.partsOk fun y a=>h y (by simp[a])]
theorem Agree.oOk{x:Option Operand}(h:∀y,x=some y->eN E y=eN E' y):Vc.oOk g E x=Vc.oOk g E' x:=by
 cases x with
 |none=>rfl
 |some y=>exact Agree.opOk (h y rfl)
theorem Agree.mapO{x:Option Operand}(h:∀y,x=some y->eN E y=eN E' y):x.map (Vc.opnd E)=x.map (Vc.opnd E'):=by
 cases x with
 |none=>rfl
 |some y=>exact congrArg some (Agree.opnd (h y rfl))
theorem RV(op:Op)(h:Agree op.operands.toList E E'):fB P g E H op=fB P g E' H op:=by
 unfold Agree at h;cases op with
 |move x=>have h:=h x (by simp[Op.operands]);simp only[fB,Agree.opnd h,Agree.opOk h]
 |assign x=>have h:=h x (by simp[Op.operands]);simp only[fB,Agree.opnd h,Agree.opOk h]
 |pick c a b =>
  have k:=h c (by simp[Op.operands]);have j:=h a (by simp[Op.operands]);have o:=h b (by simp[Op.operands]);simp only[fB,Agree.opnd k,Agree.opOk k,j,o]
 |build t A =>
  have r:∀x∈A.toList,eN E x.2=eN E' x.2:=fun x p=>h x.2 (by simp only[Op.operands,mem_map];exact⟨x,p,rfl⟩);simp only[fB,Agree.partsV r,Agree.partsOk r]
 |load t x=>have h:=h x (by simp[Op.operands]);simp only[fB,Agree.opnd h,Agree.opOk h]
 |nilCheck x=>have h:=h x (by simp[Op.operands]);simp only[fB,Agree.opnd h,Agree.opOk h]
 |binOp op t x y u =>
  have k:=h x (by simp[Op.operands]);have j:=h y (by simp[Op.operands]);simp only[fB,Agree.opnd k,Agree.opOk k,Agree.opnd j,Agree.opOk j]
 |unOp op t x=>have h:=h x (by simp[Op.operands]);simp only[fB,Agree.opnd h,Agree.opOk h]
 |convert s d x=>have h:=h x (by simp[Op.operands]);simp only[fB,Agree.opnd h,Agree.opOk h]
 |makeFunc fn first q =>
  have v:Agree q.toList E E':=fun x p=>h x (by simp only[Op.operands,Array.toList_append,mem_append];exact .inr p);simp only[fB,Agree.opnds v,Agree.allOk v]
 |slice t x l hi m =>
  have k:=h x (by simp[Op.operands]);have j:∀y,l=some y->eN E y=eN E' y:=fun y e=>h y (by simp[Op.operands,e]);have o:∀y,hi=some y->eN E y=eN E' y:=fun y e=>h y (by simp[Op.operands,e]);have w:∀y,m=some y->eN E y=eN E' y:=fun y e=>h y (by simp[Op.operands,e]);simp only[fB,Agree.opnd k,Agree.opOk k,Agree.oOk j,Agree.oOk o,Agree.oOk w,Agree.mapO j,Agree.mapO o,Agree.mapO w]
 |fieldAddr t x f=>have h:=h x (by simp[Op.operands]);simp only[fB,Agree.opnd h,Agree.opOk h]
 |field t x f=>have h:=h x (by simp[Op.operands]);simp only[fB,Agree.opnd h,Agree.opOk h]
 |indexAddr t x y =>
  have k:=h x (by simp[Op.operands]);have j:=h y (by simp[Op.operands]);simp only[fB,Agree.opnd k,Agree.opOk k,Agree.opnd j,Agree.opOk j]
 |index t x y =>
  have k:=h x (by simp[Op.operands]);have j:=h y (by simp[Op.operands]);simp only[fB,Agree.opnd k,Agree.opOk k,Agree.opnd j,Agree.opOk j]
 |extract x i=>have h:=h x (by simp[Op.operands]);simp only[fB,Agree.opnd h,Agree.opOk h]
 |lookup t x y B =>
  have k:=h x (by simp[Op.operands]);have j:=h y (by simp[Op.operands]);simp only[fB,Agree.opnd k,Agree.opOk k,Agree.opnd j,Agree.opOk j]
 |call c =>
  have n:∀x∈c.args.toList,eN E x=eN E' x:=fun x p=>h x (by simp only[Op.operands,Call.operands,Array.toList_append,mem_append];exact .inr p);simp only[fB];split
  .rename_i x t _ _ j _;have h:=n x (by rw[j];simp);simp only[Agree.opnd h,Agree.opOk h]
  .rename_i x t _ _ j _;have h:=n x (by rw[j];simp);simp only[Agree.opnd h,Agree.opOk h]
  .rename_i x y _ j;have k:=n x (by rw[j];simp);have j:=n y (by rw[j];simp);simp only[Agree.opnd k,Agree.opOk k,Agree.opnd j,Agree.opOk j]
  .rename_i x y z _ j;have k:=n x (by rw[j];simp);have o:=n z (by rw[j];simp);have j:=n y (by rw[j];simp);simp only[Agree.opnd k,Agree.opOk k,Agree.opnd j,Agree.opOk j,Agree.opnd o,Agree.opOk o]
  .rename_i x y _ j;have k:=n x (by rw[j];simp);have j:=n y (by rw[j];simp);simp only[Agree.opnd k,Agree.opOk k,Agree.opnd j,Agree.opOk j]
  .rfl
 |_=>rfl
def ph(E:ey):Op->Option (Nat->Bool)
 |.call c=>match c.callee,c.args.toList with
  |.builtin .append,[x,_]=>match Vc.opnd E x with
   |.buf o=>some (· != o)
   |_=>none
  |_,_=>none
 |_=>none
def lh:Option (Nat->Bool)->Va->Va
 |none,v=>v
 |some f,v=>v.prune f
def Alike(b:Option (Nat->Bool))(c:ey)(r a:Ev):Prop:=a.v=r.v/\a.H=r.H/\a.ok=r.ok/\(r.ok->∀m,eR a.E m=lh b (eR c m))
theorem gy{a:Option (Nat->Bool)}:Alike a E' fq fq:=⟨rfl,rfl,rfl,fun h=>h.elim⟩
theorem kT{v:Va}{a:List Ob}{ok:Prop}:Alike none E' ⟨v,E,a,ok⟩ ⟨v,E',a,ok⟩:=⟨rfl,rfl,rfl,fun _ _=>rfl⟩
theorem Alike.also{b:Option (Nat->Bool)}{r a:Ev}{c d e f:Prop}(h:Alike b E' r a)(g:c=e)(i:d=f):Alike b E' ⟨r.v,r.E,r.H,c/\d/\r.ok⟩ ⟨a.v,a.E,a.H,e/\f/\a.ok⟩:=by
 subst g;subst i;exact⟨h.1,h.2.1,by simp only[h.2.2.1],fun k=>h.2.2.2 k.2.2⟩
theorem Alike.also3{b:Option (Nat->Bool)}{r a:Ev}{c d f e g i:Prop}(h:Alike b E' r a)(j:c=e)(l:d=g)(m:f=i):Alike b E' ⟨r.v,r.E,r.H,c/\d/\f/\r.ok⟩ ⟨a.v,a.E,a.H,e/\g/\i/\a.ok⟩:=by
 subst j;subst l;subst m;exact⟨h.1,h.2.1,by simp only[h.2.2.1],fun k=>h.2.2.2 k.2.2.2⟩
theorem Alike.also1{b:Option (Nat->Bool)}{r a:Ev}{c d:Prop}(h:Alike b E' r a)(e:c=d):Alike b E' ⟨r.v,r.E,r.H,c/\r.ok⟩ ⟨a.v,a.E,a.H,d/\a.ok⟩:=by subst e;exact⟨h.1,h.2.1,by simp only[h.2.2.1],fun k=>h.2.2.2 k.2⟩
theorem ox{kp:Nat->Bool}(op:Op)(h:Agree op.operands.toList E E'):Alike (ph E op) E' (kP P kp E H op) (kP P kp E' H op):=by
 unfold Agree at h;cases op with
 |alloc t =>
  simp only[kP,Bw,ph];split
  .split
   .exact kT
   .exact kT
  .exact gy
 |box t x =>
  have h:=h x (by simp[Op.operands]);simp only[kP,oL,ph,Agree.opnd h,Agree.opOk h];exact kT
 |buildSlice t n v =>
  have q:∀x∈v.toList,eN E x.2=eN E' x.2:=fun x i=>h x.2 (by simp only[Op.operands,mem_map];exact⟨x,i,rfl⟩);simp only[kP,oJ,ia,ph,Agree.partsV q,Agree.partsOk q];cases Ab P t <;> simp only[cond_true,cond_false]
  all_goals repeat' split
  all_goals first|exact kT|exact gy|(cases vS P _ _ <;> exact kT)
 |store t x y =>
  have a:=h x (by simp[Op.operands]);have f:=h y (by simp[Op.operands]);simp only[kP,ph,Agree.opnd a,Agree.opnd f];refine Alike.also ?_ (Agree.opOk a) (Agree.opOk f);unfold Bu;repeat' split
  all_goals first|exact kT|exact gy
 |convert s d x =>
  have a:=h x (by simp[Op.operands]);simp only[kP,ph,Agree.opnd a];refine Alike.also1 ?_ (Agree.opOk a);unfold Bx BB hI;repeat' split
  all_goals first|exact kT|exact gy
 |makeSlice t l c =>
  have a:=h l (by simp[Op.operands]);have f:=h c (by simp[Op.operands]);simp only[kP,ph,Agree.opnd a,Agree.opnd f];refine Alike.also ?_ (Agree.opOk a) (Agree.opOk f);unfold hQ;repeat' split
  all_goals first|exact kT|exact gy
 |call c =>
  have g:∀x∈c.args.toList,eN E x=eN E' x:=fun x i=>h x (by simp only[Op.operands,Call.operands,Array.toList_append,mem_append];exact .inr i);simp only[kP];split
  .rename_i x y t u b e _;have a:=g x (by rw[e];simp);have f:=g y (by rw[e];simp);simp only[Agree.opnd a,Agree.opnd f];refine Alike.also ?_ (Agree.opOk a) (Agree.opOk f);simp only[ph,b,e,Agree.opnd a];generalize Vc.opnd E' x=p;unfold oQ;cases p
   case buf o =>
    simp only[];repeat' split
    all_goals first|exact gy|exact⟨rfl,rfl,rfl,fun _ m=>sH _ E' m⟩
   all_goals
    simp only[];repeat' split
    all_goals first|exact gy|exact kT
  .rename_i x b i;have a:=g x (by rw[i];simp);simp only[ph,b,i,Agree.opnd a,Agree.opOk a];exact kT
  .rename_i x y t u b e _;have a:=g x (by rw[e];simp);have f:=g y (by rw[e];simp);simp only[ph,b,e,Agree.opnd a,Agree.opnd f,Agree.opOk a,Agree.opOk f];exact kT
  .rename_i x y t u b e _;have a:=g x (by rw[e];simp);have f:=g y (by rw[e];simp);simp only[Agree.opnd a,Agree.opnd f];refine Alike.also ?_ (Agree.opOk a) (Agree.opOk f);simp only[ph,b,e];unfold oA;repeat' split
   all_goals first|exact kT|exact gy
  .exact gy
 |makeMap t r =>
  cases r with
  |none =>
   simp only[kP,nF,ph];split
   .exact kT
   .exact gy
  |some _=>exact gy
 |mapUpdate t m k x =>
  have a:=h m (by simp[Op.operands]);have f:=h k (by simp[Op.operands]);have j:=h x (by simp[Op.operands]);simp only[kP,ph,Agree.opnd a,Agree.opnd f,Agree.opnd j];refine Alike.also3 ?_ (Agree.opOk a) (Agree.opOk f) (Agree.opOk j);unfold jx;repeat' split
  all_goals first|exact kT|exact gy
 |insert t m k x =>
  have a:=h m (by simp[Op.operands]);have f:=h k (by simp[Op.operands]);have j:=h x (by simp[Op.operands]);simp only[kP,ph,Agree.opnd a,Agree.opnd f,Agree.opnd j];refine Alike.also3 ?_ (Agree.opOk a) (Agree.opOk f) (Agree.opOk j);unfold jx;repeat' split
  all_goals first|exact kT|exact gy
 |_=>exact gy
def Ad(P:Program)(E:ey)(H:List Ob):Op->Option (Option (Nat->Bool))
 |.store _ x y=>match Vc.opnd E x with
  |.el o _ _ _=>match eD H o with
   |.nst _ _ _ _ p _ _=>some (match Vc.opnd E y with
    |.buf m=>some fun q=>!(q == p)&&!(q == m)
    |_=>none)
   |_=>none
  |.ne _ _ _ _ _=>some none
  |_=>none
 |.buildSlice t n b=>match zB P t with
  |.slice e _ _ _=>match Tabs.nest e with
   |some (k,_,_)=>some (match s5 n b.toList with
    |some x=>match Vc.opnd E x with
     |.agg cs=>match tT cs k with
      |.buf m=>some (· != m)
      |_=>none
     |_=>none
    |none=>none)
   |none=>none
  |_=>none
 |.makeSlice t _ _=>match zB P t with
  |.slice e _ _ _=>match Tabs.nest e with
   |some _=>some none
   |none=>none
  |_=>none
 |.call c=>match tV c with
  |some (x,y,_,_)=>match Vc.opnd E x with
   |.nv q _=>some (some (· != q))
   |.buf o=>match eD H o with
    |.nst _ _ _ _ p _ _=>some (match Vc.opnd E y with
     |.buf a=>match eD H a with
      |.nst _ _ _ _ d _ _=>some fun q=>!(q == o)&&(!(q == p)&&(!(q == a)&&!(q == d)))
      |_=>none
     |_=>none)
    |_=>none
   |_=>none
  |none=>none
 |_=>none
def jz(P:Program)(E:ey)(H:List Ob)(op:Op):Option (Nat->Bool):=match Ad P E H op with
 |some a=>a
 |none=>ph E op
def AlikeO(a:Option (Option (Nat->Bool)))(b:ey):Option Ev->Option Ev->Prop
 |some r,some c=>match a with
  |some p=>Alike p b r c
  |none=>False
 |none,none=>a=none
 |_,_=>False
theorem Nn{v:Va}{f:Nat->Bool}{a:List Ob}{ok:Prop}:Alike (some f) E' ⟨v,fZ f E,a,ok⟩ ⟨v,fZ f E',a,ok⟩:=⟨rfl,rfl,rfl,fun _ m=>sH f E' m⟩
theorem AlikeO.also{b:Option (Option (Nat->Bool))}{r a:Option Ev}{c d e f:Prop}(h:AlikeO b E' r a)(g:c=e)(i:d=f) :
  AlikeO b E' (yh c d r) (yh e f a):=by
 cases r with
 |none=>cases a with
  |none=>exact h
  |some a=>exact h.elim
 |some r=>cases a with
  |none=>exact h.elim
  |some a =>
   cases b with
   |none=>exact h.elim
   |some p=>exact Alike.also h g i
theorem qB{kp:Nat->Bool}(op:Op)(h:Agree op.operands.toList E E'):AlikeO (Ad P E H op) E' (g6 P kp E H op) (g6 P kp E' H op):=by
 unfold Agree at h;cases op with
 |store t x y =>
  have a:=h x (by simp[Op.operands]);have b:=h y (by simp[Op.operands]);simp only[g6,Ad,Agree.opnd a,Agree.opnd b];refine AlikeO.also ?_ (Agree.opOk a) (Agree.opOk b);unfold iO;generalize Vc.opnd E' x=v;generalize Vc.opnd E' y=B;cases v <;> try (exact rfl)
  case el o S i C =>
   simp only[];generalize eD H o=D;cases D <;> try (exact rfl)
   case nst f T F k p w U =>
    simp only[];cases eB P t
    .exact gy
    simp only[];cases B;case buf m =>
     simp only[];repeat' split
     all_goals first|exact Nn|exact gy
    all_goals
     simp only[];repeat' split
     all_goals first|exact kT|exact gy
  case ne o S i j C =>
   simp only[];repeat' split
   all_goals first|exact kT|exact gy
 |buildSlice t n O =>
  have V:∀x∈O.toList,eN E x.2=eN E' x.2:=fun x s=>h x.2 (by simp only[Op.operands,mem_map];exact⟨x,s,rfl⟩);simp only[g6,Ad,xm];generalize zB P t=g;cases g <;> try (exact rfl)
  case slice e G W X =>
   simp only[];generalize Tabs.nest e=I;cases I;case none=>exact rfl
   case some J =>
    obtain⟨k,Y,K⟩:=J;simp only[];cases z:s5 n O.toList;case none=>exact gy
    case some x =>
     have s:eN E x=eN E' x:=V (0,x) (by rw[(j2 z).2];simp);simp only[Agree.opnd s,Agree.opOk s];generalize Vc.opnd E' x=v;cases v <;> try (exact gy)
     case agg cs =>
      simp only[];generalize tT cs k=Z;cases Z;case buf m =>
       simp only[];repeat' split
       all_goals first|exact Nn|exact gy
      all_goals
       simp only[];repeat' split
       all_goals first|exact kT|exact gy
 |makeSlice t l c =>
  have a:=h l (by simp[Op.operands]);have b:=h c (by simp[Op.operands]);simp only[g6,Ad,Agree.opnd a,Agree.opnd b];refine AlikeO.also ?_ (Agree.opOk a) (Agree.opOk b);unfold wd;generalize zB P t=g;cases g <;> try (exact rfl)
  case slice e G W X =>
   simp only[];generalize Tabs.nest e=I;cases I;case none=>exact rfl
   case some J =>
    obtain⟨k,Y,K⟩:=J;simp only[];repeat' split
    all_goals first|exact kT|exact gy
 |call c =>
  have Q:∀x∈c.args.toList,eN E x=eN E' x:=fun x s=>h x (by simp only[Op.operands,Call.operands,Array.toList_append,mem_append];exact .inr s);simp only[g6,Ad];cases L:tV c;case none=>exact rfl
  case some q0 =>
   obtain⟨x,y,t,u⟩:=q0;obtain⟨R,A,_⟩:=kE L;have a:=Q x (by rw[A];simp);have b:=Q y (by rw[A];simp);simp only[Agree.opnd a,Agree.opnd b];refine AlikeO.also ?_ (Agree.opOk a) (Agree.opOk b);unfold xC;generalize Vc.opnd E' x=v;generalize Vc.opnd E' y=B;cases v <;> try (exact rfl)
   case nv q i =>
    simp only[];repeat' split
    all_goals first|exact Nn|exact gy
   case buf o =>
    simp only[];generalize eD H o=D;cases D <;> try (exact rfl)
    case nst f T F k p w U =>
     simp only[];generalize zB P t=g;cases B;case buf o2 =>
      simp only[];generalize d:eD H o2=M;cases M;case nst f2 T2 sz2 k2 p2 N st2 =>
       cases g <;> try (exact gy)
       simp only[d];generalize eD H p=r;cases r <;> try (exact gy)
       simp only[];split
       .exact Nn
       .exact gy
      all_goals
       cases g <;> try (exact gy)
       simp only[d];generalize eD H p=r;cases r <;> exact gy
     all_goals
      cases g <;> exact gy
 |_=>exact rfl
theorem Ro{kp:Nat->Bool}(op:Op)(h:Agree op.operands.toList E E'):Alike (jz P E H op) E' (gh P kp E H op) (gh P kp E' H op):=by
 have a:=qB (P:=P) (H:=H) (kp:=kp) op h;unfold gh jz;cases c:g6 P kp E H op with
 |none =>
  rw[c]at a;cases b:g6 P kp E' H op with
  |none =>
   rw[b]at a;rw[show Ad P E H op=none from a];exact ox op h
  |some e=>rw[b]at a;exact a.elim
 |some r =>
  rw[c]at a;cases b:g6 P kp E' H op with
  |none=>rw[b]at a;exact a.elim
  |some e =>
   rw[b]at a;cases d:Ad P E H op with
   |none=>rw[d]at a;exact a.elim
   |some f=>rw[d]at a;exact a
end
def looks(a:Array Oper)(i:Nat):List Operand:=match a[i]? with
 |some o=>o.op.operands.toList++match o.guard with
  |some (j,_)=>match (a[j]?).bind (·.dst)with
   |some d=>[.tmp d]
   |none=>[]
  |none=>[]
 |none=>[]
def gC(a:Array Oper)(i:Nat):Option Tmp:=(a[i]?).bind (·.dst)
def pE:Option (Nat->Bool)->ey->ey
 |none,E=>E
 |some f,E=>fZ f E
theorem iW(a:Option (Nat->Bool))(E:ey)(m:Nat):eR (pE a E) m=lh a (eR E m):=by
 cases a with
 |none=>rfl
 |some o=>exact sH _ E m
theorem CH(E:ey)(d:Option Tmp)(v:Va)(m:Nat):eR (eP E d v) m=if d=some m then v else eR E m:=by
 cases d with
 |none=>simp[eP]
 |some d=>simp only[eP,eR,Option.some.injEq]
theorem Rel.ext{C:Cx}{E b:ey}{H:List Ob}{a:Act}{w:World}(h:∀m,eR E m=eR b m)(c:Rel C E H a w):Rel C b H a w:=by obtain⟨K,G,d,e,f,g⟩:=c;exact⟨K,G,d,e,fun m=>by rw[<-h m];exact f m,g⟩
theorem Rel.drew{C:Cx}{E:ey}{H:List Ob}{a:Act}{w:World}(c:Rel C E H a w)(d:Nat)(e:w.drawn<=d):Rel C E H a { w with drawn:=d }:=by obtain⟨K,G,b,f,g,h⟩:=c;exact⟨K,G,{ b with tape:=⟨b.tape.1,fun m=>Nat.le_trans (b.tape.2 m) e⟩ },{ f with },g,h⟩
section
variable (P:Program) (kl:List Bool) (n:Nat) (B:Bs) (ops:Array Oper)
def Tq(i:Nat)(E:ey)(H:List Ob)(d:ey)(e:List Ob):Prop :=
 ∀(a:Act) (w:World) (Q:Exit->Act->World->Prop) (K:Act->World->Prop),Rel (cx P kl n B) E H a w->(∀b c,Rel (cx P kl n B) d e b c->K b c)->wpOp P ops Q i K a w
def Rdr(i:Nat)(S:ey)(v:Va)(H:List Ob):Prop:=∀E,Agree (looks ops i) S E->Tq P kl n B ops i E H (eP E (gC ops i) v) H
def Efr(i:Nat)(S:ey)(v:Va)(a:Option (Nat->Bool))(H b:List Ob):Prop:=∀E,Agree (looks ops i) S E->Tq P kl n B ops i E H (eP (pE a E) (gC ops i) v) b
structure Pd where
 k:Nat
 S:ey
 v:Va
def Again(e:Pd)(a:Option (Nat->Bool))(b:List Ob):Prop:=Rdr P kl n B ops e.k e.S e.v b/\lh a e.v=e.v/\Agree (looks ops e.k) e.S (pE a e.S)
def G6(i:Nat):List Nat:=match ops[i]? with
 |some o=>(o.after.toList.filter (Region.binds .any ·)).map (·.on)
 |none=>[]
def Q4:Nat->List Nat->List Nat
 |0,L=>L
 |m+1,L=>Q4 m ((L++L.flatMap (G6 ops)).eraseDups)
def uq(i k:Nat):Bool:=(Q4 ops 24 (G6 ops i)).contains k
def DC(a:Array Bool):Prop:=∀i,a.getD i false=true->∀j∈G6 ops i,a.getD j false=true
def AnyO(K:ey->List Ob->Prop):Nat->List Pd->Array Bool->ey->List Ob->Prop
 |0,_,a,E,H=>Region.ready .any ops a=[]/\∃c,(∀m,eR E m=eR c m)/\K c H
 |f+1,b,a,E,H=>(Region.ready .any ops a=[]->∃c,(∀m,eR E m=eR c m)/\K c H) /\
  ∀i∈Region.ready .any ops a,∃v,(Rdr P kl n B ops i E v H/\AnyO K f b (a.setIfInBounds i true) (eP E (gC ops i) v) H) ∨
   (∃d g,Efr P kl n B ops i E v d H g/\(∀e∈b,uq ops i e.k=false->Again P kl n B ops e d g)/\AnyO K f b (a.setIfInBounds i true) (eP (pE d E) (gC ops i) v) g)
end
section
variable {P:Program} {kl:List Bool} {n:Nat} {B:Bs} {ops:Array Oper} {K:ey->List Ob->Prop}
theorem xh{a:Array Bool}(c:DC ops a):∀(m:Nat) (L:List Nat),(∀x∈L,a.getD x false=true)->∀x∈Q4 ops m L,a.getD x false=true
 |0,L,h=>h
 |m+1,L,h=>xh c m _ fun x b=>by
  rw[mem_eraseDups,mem_append,mem_flatMap]at b;rcases b with b|⟨y,d,b⟩
  .exact h x b
  .exact c y (h y d) x b
theorem RY{a:Array Bool}{i:Nat}(h:i∈Region.ready .any ops a):∀j∈G6 ops i,a.getD j false=true:=by obtain⟨_,o,d,b⟩:=mem_ready.1 h;intro j c;simp only[G6,d,mem_map,mem_filter]at c;obtain⟨e,⟨he,hb⟩,rfl⟩:=c;exact b e (by simpa using he) hb
theorem FG{a:Array Bool}(c:DC ops a){i k:Nat}(h:i∈Region.ready .any ops a)(b:a.getD k false=false):uq ops i k=false:=by
 cases e:uq ops i k with
 |false=>rfl
 |true =>
  have:=xh c 24 _ (RY h) k (by simpa [uq]using e);rw[this]at b;cases b
theorem lP{a:Array Bool}{i j:Nat}(h:(a.setIfInBounds i true).getD j false=true):j=i∨a.getD j false=true:=by
 by_cases e:i=j
 .exact .inl e.symm
 .rw[getD_set_ne false e]at h;exact .inr h
theorem DC.set{a:Array Bool}(d:DC ops a){i:Nat}(h:i∈Region.ready .any ops a):DC ops (a.setIfInBounds i true):=by
 intro x b j c;rcases lP b with rfl|b
 .exact getD_set_true (RY h j c)
 .exact getD_set_true (d x b j c)
theorem Agree.refl(a:List Operand)(E:ey):Agree a E E:=fun _ _=>rfl
theorem Agree.trans{xs:List Operand}{E a E2:ey}(h:Agree xs E a)(k:Agree xs a E2):Agree xs E E2:=fun x b=>(h x b).trans (k x b)
theorem Agree.symm{xs:List Operand}{E a:ey}(h:Agree xs E a):Agree xs a E:=fun x b=>(h x b).symm
theorem Agree.of_get{a:List Operand}{E E':ey}(h:∀m,eR E m=eR E' m):Agree a E E':=fun x _=>by cases x <;> first|rfl|exact h _
theorem Agree.put{a:List Operand}{d:Option Tmp}(h:∀s,d=some s->.tmp s∉a)(E:ey)(v:Va):Agree a E (eP E d v):=fun x b=>by
 cases x with
 |tmp t=>simp only[eN,CH];rw[if_neg fun e=>h t e b]
 |_=>rfl
theorem Rdr.agree{i:Nat}{S a:ey}{v:Va}{H:List Ob}(h:Rdr P kl n B ops i S v H)(k:Agree (looks ops i) S a):Rdr P kl n B ops i a v H:=fun E b=>h E (k.trans b)
theorem Efr.agree{i:Nat}{S a:ey}{v:Va}{b:Option (Nat->Bool)}{H H':List Ob}(h:Efr P kl n B ops i S v b H H')(k:Agree (looks ops i) S a):Efr P kl n B ops i a v b H H':=fun E c=>h E (k.trans c)
theorem vR{a:List Operand}{b:Option (Nat->Bool)}{S c:ey}(h:Agree a S c):Agree a (pE b S) (pE b c):=fun x d=>by
 have:=h x d;cases x with
 |tmp t=>simp only[eN,iW]at *;rw[this]
 |_=>rfl
theorem Again.agree{e:Pd}{a:ey}{b:Option (Nat->Bool)}{H':List Ob}(h:Again P kl n B ops e b H')(k:Agree (looks ops e.k) e.S a):Again P kl n B ops ⟨e.k,a,e.v⟩ b H' :=
 ⟨h.1.agree k,h.2.1,(k.symm.trans h.2.2).trans (vR k)⟩
theorem AnyO.tail{e:Pd}:∀(f:Nat) {b:List Pd} {a:Array Bool} {E:ey} {H:List Ob},AnyO P kl n B ops K f (e::b) a E H->AnyO P kl n B ops K f b a E H
 |0,_,_,_,_,h=>h
 |f+1,_,_,_,_,h=>⟨h.1,fun i hi=>by
  obtain⟨v,c|⟨d,g,c,j,k⟩⟩:=h.2 i hi
  .exact⟨v,.inl ⟨c.1,AnyO.tail f c.2⟩⟩
  .exact⟨v,.inr ⟨d,g,c,fun l he=>j l (mem_cons_of_mem _ he),AnyO.tail f k⟩⟩⟩
theorem AnyO.swap{k:Nat}{S e:ey}{v:Va}(d:Agree (looks ops k) S e):∀(f:Nat) {b:List Pd} {a:Array Bool} {E:ey} {H:List Ob},AnyO P kl n B ops K f (⟨k,S,v⟩::b) a E H->AnyO P kl n B ops K f (⟨k,e,v⟩::b) a E H
 |0,_,_,_,_,h=>h
 |f+1,_,_,_,_,h=>⟨h.1,fun i hi=>by
  obtain⟨v,c|⟨l,m,c,g,o⟩⟩:=h.2 i hi
  .exact⟨v,.inl ⟨c.1,AnyO.swap d f c.2⟩⟩
  .refine⟨v,.inr ⟨l,m,c,fun p he j=>?_,AnyO.swap d f o⟩⟩;rcases mem_cons.1 he with rfl|he
   .exact(g _ (mem_cons_self ..) j).agree d
   .exact g p (mem_cons_of_mem _ he) j⟩
theorem AnyO.ext:∀(f:Nat) {c:List Pd} {a:Array Bool} {E e:ey} {H:List Ob},(∀m,eR E m=eR e m)->AnyO P kl n B ops K f c a E H->AnyO P kl n B ops K f c a e H
 |0,_,_,_,_,_,he,h=>⟨h.1,by obtain⟨g,b,d⟩:=h.2;exact⟨g,fun m=>(he m).symm.trans (b m),d⟩⟩
 |f+1,_,_,E,e,_,he,h=>⟨fun j=>by obtain⟨g,b,d⟩:=h.1 j;exact⟨g,fun m=>(he m).symm.trans (b m),d⟩,fun i hi=>by
  obtain⟨v,b|⟨k,l,b,d,o⟩⟩:=h.2 i hi
  .exact⟨v,.inl ⟨b.1.agree (Agree.of_get he),AnyO.ext f (fun m=>by simp only[CH];split;rfl;exact he m) b.2⟩⟩
  .exact⟨v,.inr ⟨k,l,b.agree (Agree.of_get he),d,AnyO.ext f (fun m=>by simp only[CH,iW];split;rfl;rw[he m]) o⟩⟩⟩
theorem oR{i j:Nat}{e f:Oper}(hi:ops[i]?=some e)(l:ops[j]?=some f)(h:e.apart ops f=true) :
  (∀d,gC ops i=some d->.tmp d∉looks ops j)/\(∀d,gC ops j=some d->.tmp d∉looks ops i)/\(∀d,gC ops i=some d->gC ops j≠some d):=by
 obtain⟨p,q,r⟩:=Oper.apart_spec h;have c:∀(k:Nat) (o:Oper) (d:Tmp),ops[k]?=some o->.tmp d∈looks ops k->d∈o.looksAt ops:=by
  intro k o d s a;simp only[looks,s,mem_append]at a;unfold Oper.looksAt;rw[mem_append];rcases a with a|a
  .exact .inl (mem_filterMap.2 ⟨.tmp d,by simpa using a,rfl⟩)
  .refine .inr ?_;cases m:o.guard with
   |none=>rw[m]at a;simp at a
   |some u =>
    obtain⟨g,n⟩:=u;rw[m]at a;simp only at a|-;cases b:(ops[g]?).bind (·.dst)with
    |none=>rw[b]at a;simp at a
    |some t=>rw[b]at a;simp at a|-;exact a
 simp only[gC,hi,l,Option.bind_some];exact⟨fun d b a=>p d b (c j f d l a),fun d b a=>r d b (c i e d hi a),q⟩
theorem AnyO.first{k:Nat}{ok:Oper}{v:Va}(W:ops[k]?=some ok):∀(f:Nat) {g:List Pd} {a:Array Bool} {E:ey} {H:List Ob},
  (∀j s,ops[j]?=some s->j≠k->a.getD j true=false->(∀e∈s.after,Region.binds .any e=true->e.on≠k)->ok.apart ops s=true)->DC ops a ->
  k∈Region.ready .any ops a->Rdr P kl n B ops k E v H->AnyO P kl n B ops K f (⟨k,E,v⟩::g) (a.setIfInBounds k true) (eP E (gC ops k) v) H->AnyO P kl n B ops K (f+1) g a E H:=by
 intro f;induction f with
 |zero =>
  intro g a E H _ _ p G h;refine⟨fun e=>(by rw[e]at p;cases p),fun j q=>?_⟩;by_cases e:j=k
  .subst e;exact⟨v,.inl ⟨G,AnyO.tail 0 h⟩⟩
  .have:=ready_mono q e;rw[h.1]at this;cases this
 |succ f R =>
  intro g a E H c I p G h;refine⟨fun e=>(by rw[e]at p;cases p),fun j q=>?_⟩;by_cases e:j=k
  .subst e;exact⟨v,.inl ⟨G,AnyO.tail (f+1) h⟩⟩
  obtain⟨o,s,t,w⟩:=mem_ready.1 q;have d:=(mem_ready.1 p).1;have x:a.getD k false=false:=by
   rcases Nat.lt_or_ge k a.size with J|J
   .simp[J]at d|-;exact d
   .simp[J]at d
  have y:∀e∈s.after,Region.binds .any e=true->e.on≠k:=fun e he hb L=>by
   have r:=w e he hb;rw[L,x]at r;cases r
  obtain⟨S,M,T⟩:=oR W t (c j s t e o y);have b:∀i z,ops[i]?=some z->i≠k->(a.setIfInBounds j true).getD i true=false->(∀e∈z.after,Region.binds .any e=true->e.on≠k)->ok.apart ops z=true:=fun i z hi N A O=>by
   refine c i z hi N ?_ O;by_cases C:j=i
   .subst C;exact o
   .rw[getD_set_ne true C]at A;exact A
  have D:=ready_mono p (Ne.symm e);obtain⟨u,r|⟨U,X,r,V,Y⟩⟩:=h.2 j (ready_mono q e)
  .refine⟨u,.inl ⟨r.1.agree (Agree.put S E v).symm,R b (I.set q) D (G.agree (Agree.put M E u)) ?_⟩⟩;have Q:=AnyO.swap (Agree.put M E u) f r.2;rw[Array.setIfInBounds_comm _ _ e];refine AnyO.ext f (fun m=>?_) Q;simp only[CH];by_cases l:gC ops k=some m
   .rw[if_neg (T m l),if_pos l,if_pos l]
   .simp only[if_neg l]
  .have hag:=V ⟨k,E,v⟩ (mem_cons_self ..) (FG I q x);have F:Agree (looks ops k) E (eP (pE U E) (gC ops j) u):=hag.2.2.trans (Agree.put M _ u);refine⟨u,.inr ⟨U,X,r.agree (Agree.put S E v).symm,fun Z he=>V Z (mem_cons_of_mem _ he),R b (I.set q) D (hag.1.agree F) ?_⟩⟩;have Q:=AnyO.swap F f Y;rw[Array.setIfInBounds_comm _ _ e];refine AnyO.ext f (fun m=>?_) Q;simp only[CH,iW];by_cases l:gC ops k=some m
   .rw[if_neg (T m l),if_pos l,if_pos l];exact hag.2.1
   .simp only[if_neg l]
theorem du{Q:Exit->Act->World->Prop}:∀(f:Nat) {m:List Pd} {b:Array Bool} {E:ey} {H:List Ob} {a:Act} {w:World},AnyO P kl n B ops K f m b E H->Rel (cx P kl n B) E H a w ->
  (∀p o j k,K p o->Rel (cx P kl n B) p o j k->Q .normal j k)->wpAny P .any ops Q f b a w
 |0,_,_,_,_,_,_,h,e,g=>⟨h.1,by obtain⟨q,c,l⟩:=h.2;exact g _ _ _ _ l (e.ext c)⟩
 |f+1,_,_,_,_,_,_,h,e,g=>⟨fun r=>by obtain⟨q,c,l⟩:=h.1 r;exact g _ _ _ _ l (e.ext c),fun i hi=>by
  obtain⟨v,c|⟨t,o,c,l,s⟩⟩:=h.2 i hi
  .exact c.1 _ (Agree.refl _ _) _ _ _ _ e fun j k d=>du f c.2 d g
  .exact c _ (Agree.refl _ _) _ _ _ _ e fun j k d=>du f s d g⟩
end
inductive Plan where
 |nil
 |rd (k:Nat) (l:Plan)
 |ef (k:Nat) (L:List Nat) (l:Plan)
 |fk (k:Nat) (L:List Nat) (l:Plan) (k':Nat) (L':List Nat) (l':Plan)
 |f3 (k:Nat) (L:List Nat) (l:Plan) (k':Nat) (L':List Nat) (l':Plan) (j:Nat) (M:List Nat) (m:Plan)
def Plan.length:Plan->Nat
 |.nil=>0
 |.rd _ l=>l.length+1
 |.ef _ _ l=>l.length+1
 |.fk _ _ l _ _ _=>l.length+1
 |.f3 _ _ l _ _ _ _ _ _=>l.length+1
def pl:List (Nat×Option (List Nat))->Plan
 |[]=>.nil
 |(k,none)::l=>.rd k (pl l)
 |(k,some L)::l=>.ef k L (pl l)
def iJ(b:Array Oper):Plan->List Nat->Array Bool->Bool
 |.nil,_,a=>(Region.ready .any b a).isEmpty
 |.rd k l,done,a=>(Region.ready .any b a).contains k&&Region.free .any b a k&&iJ b l (k::done) (a.setIfInBounds k true)
 |.ef k L l,done,a=>(Region.ready .any b a == [k])&&done.all (fun j=>uq b k j||L.contains j)&&iJ b l done (a.setIfInBounds k true)
 |.fk k L l c e d,done,a=>(Region.ready .any b a).all (fun i=>i == k||i == c)&&(Region.ready .any b a).contains k&&done.all (fun j=>uq b k j||L.contains j)&&done.all (fun j=>uq b c j||e.contains j)&&(d.length == l.length) &&
   iJ b l done (a.setIfInBounds k true)&&iJ b d done (a.setIfInBounds c true)
 |.f3 k L l c e d j M m,done,a=>(Region.ready .any b a).all (fun i=>i == k||(i == c||i == j))&&(Region.ready .any b a).contains k&&done.all (fun j=>uq b k j||L.contains j)&&done.all (fun j=>uq b c j||e.contains j)&&done.all (fun i=>uq b j i||M.contains i)&&(d.length == l.length)&&(m.length == l.length) &&
   iJ b l done (a.setIfInBounds k true)&&iJ b d done (a.setIfInBounds c true)&&iJ b m done (a.setIfInBounds j true)
structure En where
 k:Nat
 S:ey
 v:Va
 re:Option (Nat->Bool)->List Ob->Prop
def FK(o:Nat->Bool)(S:ey):List Operand->Prop
 |[]=>True
 |.tmp t::a=>(eR S t).prune o=eR S t/\FK o S a
 |_::a=>FK o S a
def ug(L:List Nat)(po:Option (Nat->Bool))(a:List Ob):List En->Prop
 |[]=>True
 |e::l=>(bif L.contains e.k then e.re po a else True)/\ug L po a l
section
variable (P:Program) (kl:List Bool) (n:Nat) (B:Bs) (ops:Array Oper)
def En.ok(e:En):Prop:=∀a b,e.re a b->Again P kl n B ops ⟨e.k,e.S,e.v⟩ a b
def Dr(l:Plan)(b:List En)(E:ey)(H:List Ob)(K:ey->List Ob->Prop):Prop :=
 B.G0.length=kl.length->(∀e∈b,e.ok P kl n B ops)->∀a,DC ops a->iJ ops l (b.map (·.k)) a=true->AnyO P kl n B ops K l.length (b.map fun e=>⟨e.k,e.S,e.v⟩) a E H
def Br(k:Nat)(L:List Nat)(l:Plan)(b:List En)(E:ey)(H:List Ob)(K:ey->List Ob->Prop):Prop :=
 B.G0.length=kl.length->(∀e∈b,e.ok P kl n B ops)->∀a,DC ops a->k∈Region.ready .any ops a->(b.map (·.k)).all (fun j=>uq ops k j||L.contains j)=true->iJ ops l (b.map (·.k)) (a.setIfInBounds k true)=true ->
  ∃v,(Rdr P kl n B ops k E v H/\AnyO P kl n B ops K l.length (b.map fun e=>⟨e.k,e.S,e.v⟩) (a.setIfInBounds k true) (eP E (gC ops k) v) H) ∨
   (∃c d,Efr P kl n B ops k E v c H d/\(∀e∈b.map (fun e=>(⟨e.k,e.S,e.v⟩:Pd)),uq ops k e.k=false->Again P kl n B ops e c d) /\
    AnyO P kl n B ops K l.length (b.map fun e=>⟨e.k,e.S,e.v⟩) (a.setIfInBounds k true) (eP (pE c E) (gC ops k) v) d)
end
section
variable {P:Program} {kl:List Bool} {n:Nat} {B:Bs} {ops:Array Oper} {K:ey->List Ob->Prop} {l:Plan} {obs:List En} {E:ey} {H:List Ob}
theorem Dr.nil(h:K E H):Dr P kl n B ops .nil obs E H K:=fun _ _ a _ b=>⟨by simpa [iJ]using b,E,fun _=>rfl,h⟩
theorem vH{k:Nat}{a:Array Bool}(h:k∈Region.ready .any ops a):∃o,ops[k]?=some o:=by obtain⟨_,o,b,_⟩:=mem_ready.1 h;exact⟨o,b⟩
theorem dD{k:Nat}{v:Va}{f:Option (Nat->Bool)->List Ob->Prop}(j:B.G0.length=kl.length->Rdr P kl n B ops k E v H)(m:B.G0.length=kl.length->En.ok P kl n B ops ⟨k,E,v,f⟩)(h:Dr P kl n B ops l (⟨k,E,v,f⟩::obs) (eP E (gC ops k) v) H K) :
  Dr P kl n B ops (.rd k l) obs E H K:=by
 intro c a listed g i;simp only[iJ,Bool.and_eq_true]at i;obtain⟨⟨p,q⟩,r⟩:=i;have d:k∈Region.ready .any ops listed:=by simpa using p
 obtain⟨o,b⟩:=vH d;exact AnyO.first b l.length (Region.free_spec b q) g d (j c) (h c (fun e he=>by
  rcases mem_cons.1 he with rfl|he
  .exact m c
  .exact a e he) _ (g.set d) r)
theorem R0{L:List Nat}{b:Option (Nat->Bool)}{c:List Ob}:∀{a:List En},ug L b c a->∀e∈a,L.contains e.k=true->e.re b c
 |[],_,_,he,_=>by cases he
 |f::a,h,e,he,d=>by
  rcases mem_cons.1 he with rfl|he
  .have:=h.1;rw[d]at this;exact this
  .exact R0 h.2 e he d
theorem Br.eff{k:Nat}{v:Va}{po:Option (Nat->Bool)}{c:List Ob}{L:List Nat}(o:B.G0.length=kl.length->Efr P kl n B ops k E v po H c)(p:ug L po c obs)(h:Dr P kl n B ops l obs (eP (pE po E) (gC ops k) v) c K) :
  Br P kl n B ops k L l obs E H K:=by
 intro i a f q r j s;refine⟨v,.inr ⟨po,c,o i,fun e he d=>?_,h i a _ (q.set r) s⟩⟩;obtain⟨g,b,rfl⟩:=mem_map.1 he;rw[all_eq_true]at j;have m:=j g.k (mem_map.2 ⟨g,b,rfl⟩);simp only at d;rw[d,Bool.false_or]at m;exact a g b po c (R0 p g b m)
theorem Br.skip{k:Nat}{v:Va}{L:List Nat}(d:B.G0.length=kl.length->Rdr P kl n B ops k E v H)(h:Dr P kl n B ops l obs (eP E (gC ops k) v) H K) :
  Br P kl n B ops k L l obs E H K:=by
 intro c a b e f i g;exact⟨v,.inl ⟨d c,h c a _ (e.set f) g⟩⟩
theorem dc{k:Nat}{L:List Nat}(h:Br P kl n B ops k L l obs E H K):Dr P kl n B ops (.ef k L l) obs E H K:=by
 intro d a listed f c;simp only[iJ,Bool.and_eq_true,beq_iff_eq]at c;obtain⟨⟨b,g⟩,j⟩:=c;have m:k∈Region.ready .any ops listed:=by rw[b];simp
 refine⟨fun e=>(by rw[b]at e;cases e),fun i hi=>?_⟩;rw[b]at hi;obtain rfl:i=k:=by simpa using hi
 exact h d a listed f m g j
theorem Dr.fk{k f:Nat}{L g:List Nat}{j:Plan}(h:Br P kl n B ops k L l obs E H K)(r:Br P kl n B ops f g j obs E H K):Dr P kl n B ops (.fk k L l f g j) obs E H K:=by
 intro m a listed o p;simp only[iJ,Bool.and_eq_true,beq_iff_eq]at p;obtain⟨⟨⟨⟨⟨⟨s,t⟩,u⟩,c⟩,v⟩,w⟩,d⟩:=p;have q:k∈Region.ready .any ops listed:=by simpa using t
 refine⟨fun e=>(by rw[e]at q;cases q),fun i hi=>?_⟩;have b:=all_eq_true.1 s i hi;simp only[Bool.or_eq_true,beq_iff_eq]at b;rcases b with rfl|rfl
 .exact h m a listed o hi u w
 .have:=r m a listed o hi c d;rw[v]at this;exact this
theorem Dr.eff{k:Nat}{v:Va}{po:Option (Nat->Bool)}{a:List Ob}{L:List Nat}(b:B.G0.length=kl.length->Efr P kl n B ops k E v po H a)(c:ug L po a obs)(h:Dr P kl n B ops l obs (eP (pE po E) (gC ops k) v) a K) :
  Dr P kl n B ops (.ef k L l) obs E H K:=dc (Br.eff b c h)
theorem dG{id:Nat}{b:List Oper}{Q:Qt}(plan:Plan)(hm:P.follows .mixedOrders=true)(d:plan.length=b.length)(e:iJ b.toArray plan [] (Array.replicate b.length false)=true)
  (h:∀K:ey->List Ob->Prop,(∀E H,Q .normal E H->K E H)->Dr P kl n B b.toArray plan [] E H K):Wp P kl n B (.region id b.toArray true) Q E H:=by
 intro f a w g;refine wp_region_any hm ?_;have j:DC b.toArray (Array.replicate b.length false):=fun i hi=>by
  simp[Array.getD_eq_getD_getElem?,Array.getElem?_replicate]at hi;split at hi <;> simp at hi
 have c:=h (Q .normal) (fun _ _ h=>h) f (fun _ he=>by cases he) _ j e;rw[d]at c;rw[show b.toArray.size=b.length by simp];exact du _ c (g.drew _ (Nat.le_succ _)) fun k l o p c m=>⟨k,l,c,m⟩
theorem CW{a:ey}{k j:Nat}{o:Oper}{want:Bool}(b:ops[k]?=some o)(c:o.guard=some (j,want))(h:Agree (looks ops k) E a):je ops.toList a j want=je ops.toList E j want:=by
 unfold je;rw[Array.getElem?_toList];cases e:ops[j]? with
 |none=>rfl
 |some f =>
  simp only;cases g:f.dst with
  |none=>rfl
  |some d =>
   have:eN E (.tmp d)=eN a (.tmp d):=h _ (by simp[looks,b,c,e,g]);simp only[eN]at this;simp only[this]
theorem yC{k:Nat}{o:Oper}{E':ey}(a:ops[k]?=some o)(h:Agree (looks ops k) E E'):Agree o.op.operands.toList E E':=fun x b=>h x (by simp only[looks,a,mem_append];exact .inl b)
theorem no{k:Nat}{o:Oper}(d:ops[k]?=some o)(q:o.guard=none)(r:gx n o.dst)(b:(fB P true E H o.op).ok):Rdr P kl n B ops k E (fB P true E H o.op).v H:=by
 intro l e a w Q z s f;rw[RV o.op (yC d e)]at b f;have g:gC ops k=o.dst:=by simp[gC,d]
 rw[g]at f;unfold wpOp;simp only[d];rw[if_pos (by simp[Region.wanted,q])];refine .inl ?_;obtain⟨Kk,G,t,m,p,h,u,i⟩:=s;obtain⟨c,x,y⟩:=MA (P:=P) m p rfl o b;unfold Oper.wp;rw[x];have j:RelV (cx P kl n B) l H c (fB P true l H o.op).v a w:=⟨Kk,G,t,m,p,h,u,i,y⟩;exact f _ _ (j.put o.dst (zY r))
theorem RX{k:Nat}{o:Oper}{j:Nat}{b g:Bool}(m:ops[k]?=some o)(x:o.guard=some (j,b))(hb:je ops.toList E j b=some g)(y:gx n o.dst)(f:g=true->(fB P g E H o.op).ok) :
  Rdr P kl n B ops k E (.cnd g (fB P g E H o.op).v) H:=by
 intro p h a w Q K z q;have A:=RV (P:=P) (g:=g) (H:=H) o.op (yC m h);rw[A]at f;rw[<-CW m x h]at hb;have r:gC ops k=o.dst:=by simp[gC,m]
 rw[r,A]at q;have C:=sG z x hb;unfold wpOp;simp only[m];have s:=z;obtain⟨Kk,G,D,t,u,i,F,l⟩:=s;cases g with
 |true =>
  rw[if_pos C];refine .inl ?_;obtain⟨c,I,J⟩:=MA (P:=P) t u rfl o (f rfl);unfold Oper.wp;rw[I];have d:RelV (cx P kl n B) p H c (.cnd true (fB P true p H o.op).v) a w:=⟨Kk,G,D,t,u,i,F,l,by simp only[VR];exact⟨fun _=>J,fun e=>Bool.noConfusion e⟩⟩;exact q _ _ (d.put o.dst (zY y))
 |false =>
  rw[if_neg (by rw[C];simp)];have d:RelV (cx P kl n B) p H undef (.cnd false (fB P false p H o.op).v) a w:=⟨Kk,G,D,t,u,i,F,l,by simp[VR]⟩;exact q _ _ (d.put o.dst (zY y))
theorem w4{k:Nat}{o:Oper}(g:ops[k]?=some o)(q:o.guard=none)(r:gx n o.dst)(b:(gh P (eI kl) E H o.op).ok):Efr P kl n B ops k E (gh P (eI kl) E H o.op).v (jz P E H o.op) H (gh P (eI kl) E H o.op).H:=by
 intro h i a w Q z s j;obtain⟨t,u,x,y⟩:=Ro (P:=P) (H:=H) (kp:=eI kl) o.op (yC g i);have d:(gh P (eI kl) h H o.op).ok:=by rw[x];exact b
 have l:gC ops k=o.dst:=by simp[gC,g]
 rw[l]at j;unfold wpOp;simp only[g];rw[if_pos (by simp[Region.wanted,q])];refine .inl ?_;obtain⟨c,w',e,p⟩:=qA (cx P kl n B) h H o d a w s;have f:Rel (cx P kl n B) (eP (pE (jz P E H o.op) h) o.dst (gh P (eI kl) E H o.op).v) (gh P (eI kl) E H o.op).H (a.put o.dst c) w':=by
  have:=p.put o.dst (zY r);simp only[t,u]at this;exact this.ext fun m=>by simp only[CH,iW];rw[y b m]
 unfold Oper.wp;rcases e with e|⟨e,rfl⟩
 .rw[e];exact j _ _ f
 .rw[e];exact j _ _ f
theorem AZ{k:Nat}{o:Oper}{j:Nat}{b:Bool}(p:ops[k]?=some o)(u:o.guard=some (j,b))(hb:je ops.toList E j b=some true)(y:gx n o.dst)(f:(gh P (eI kl) E H o.op).ok):Efr P kl n B ops k E (.cnd true (gh P (eI kl) E H o.op).v) (jz P E H o.op) H (gh P (eI kl) E H o.op).H:=by
 intro d g a w Q N x q;obtain⟨z,A,C,D⟩:=Ro (P:=P) (H:=H) (kp:=eI kl) o.op (yC p g);have h:(gh P (eI kl) d H o.op).ok:=by rw[C];exact f
 have r:gC ops k=o.dst:=by simp[gC,p]
 rw[r]at q;unfold wpOp;simp only[p];rw[<-CW p u g]at hb;rw[if_pos (sG x u hb)];refine .inl ?_;obtain⟨c,w',i,s⟩:=qA (cx P kl n B) d H o h a w x;have l:Rel (cx P kl n B) (eP (pE (jz P E H o.op) d) o.dst (.cnd true (gh P (eI kl) E H o.op).v)) (gh P (eI kl) E H o.op).H (a.put o.dst c) w':=by
  have t:RelV (cx P kl n B) (gh P (eI kl) d H o.op).E (gh P (eI kl) d H o.op).H c (.cnd true (gh P (eI kl) d H o.op).v) a w':=by obtain⟨Kk,G,F,I,J,K,L,q6,M⟩:=s;exact⟨Kk,G,F,I,J,K,L,q6,by simp only[VR];exact⟨fun _=>M,fun e=>Bool.noConfusion e⟩⟩
  have:=t.put o.dst (zY y);simp only[z,A]at this;exact this.ext fun m=>by simp only[CH,iW];rw[D f m]
 unfold Oper.wp;rcases i with i|⟨i,rfl⟩
 .rw[i];exact q _ _ l
 .rw[i];exact q _ _ l
end
def iA:Option (Nat×Bool)->Bool->Va->Va
 |none,_,v=>v
 |some _,g,v=>.cnd g v
def rG(a:List Oper)(o:Oper):List Operand:=o.op.operands.toList++match o.guard with
 |some (j,_)=>match a[j]? with
  |some b=>match b.dst with
   |some d=>[.tmp d]
   |none=>[]
  |none=>[]
 |none=>[]
def L9(a:List Oper)(o:Oper)(S:ey)(v:Va):Option (Nat->Bool)->Prop
 |none=>True
 |some p=>v.prune p=v/\FK p S (rG a o)
def vJ(P:Program)(a:List Oper)(o:Oper)(g:Bool)(E:ey)(v:Va)(c:Option (Nat->Bool))(b:List Ob):Prop :=
 (g=true->(fB P g E b o.op).ok)/\iA o.guard g (fB P g E b o.op).v=v/\L9 a o E v c
def p5(a:List Oper)(o:Oper)(E:ey)(v:Va)(av args:List Va)(b:Option (Nat->Bool))(c:List Ob):Prop :=
 js c av=some args/\L9 a o E v b
structure Aw where
 obs:List En
 E:ey
 H:List Ob
 ok:Prop
def oB(P:Program)(n:Nat)(b:List Oper)(k:Nat)(o:Oper)(g:Bool)(a:Aw)(r:Pv):Aw :=
 ⟨⟨k,a.E,iA o.guard g r.v,vJ P b o g a.E (iA o.guard g r.v)⟩::a.obs,eP a.E o.dst (iA o.guard g r.v),a.H,a.ok/\gx n o.dst/\(g=true->r.ok)⟩
def xd(n:Nat)(o:Oper)(L:List Nat)(b:Option (Nat->Bool))(a:Aw)(r:Ev):Aw :=
 ⟨a.obs,eP (pE b a.E) o.dst r.v,r.H,a.ok/\gx n o.dst/\r.ok/\ug L b r.H a.obs⟩
def xc(n:Nat)(o:Oper)(L:List Nat)(b:Option (Nat->Bool))(a:Aw)(r:Ev):Aw :=
 ⟨a.obs,eP (pE b a.E) o.dst (.cnd true r.v),r.H,a.ok/\gx n o.dst/\r.ok/\ug L b r.H a.obs⟩
def xb(n:Nat)(o:Oper)(a:Aw):Aw:=⟨a.obs,eP a.E o.dst (.cnd false .top),a.H,a.ok/\gx n o.dst⟩
inductive Rd where
 |done (aw:Aw)
 |stop (l:Plan) (aw:Aw)
def xw:Rd:=.done ⟨[],[],[],False⟩
def gO(P:Program)(d:List Bool)(n:Nat)(b:List Oper):Plan->Aw->Rd
 |.nil,a=>.done a
 |.fk k L l e f h,a=>.stop (.fk k L l e f h) a
 |.f3 k L l e f h j M m,a=>.stop (.f3 k L l e f h j M m) a
 |.rd k l,a=>match b[k]? with
  |some o=>if lM P o=true then .stop (.rd k l) a else match o.guard with
   |none=>gO P d n b l (oB P n b k o true a (fB P true a.E a.H o.op))
   |some (j,c)=>match je b a.E j c with
    |some g=>gO P d n b l (oB P n b k o g a (fB P g a.E a.H o.op))
    |none=>xw
  |none=>xw
 |.ef k L l,a=>match b[k]? with
  |some o=>if lM P o=true then .stop (.ef k L l) a else match o.guard with
   |none=>gO P d n b l (xd n o L (jz P a.E a.H o.op) a (gh P (eI d) a.E a.H o.op))
   |some (j,c)=>match je b a.E j c with
    |some true=>gO P d n b l (xc n o L (jz P a.E a.H o.op) a (gh P (eI d) a.E a.H o.op))
    |some false=>gO P d n b l (xb n o a)
    |none=>xw
  |none=>xw
def kN(P:Program)(c:List Bool)(n:Nat)(B:Bs)(b:Array Oper)(K:ey->List Ob->Prop):Rd->Prop
 |.done a=>a.ok/\K a.E a.H
 |.stop l a=>a.ok/\Dr P c n B b l a.obs a.E a.H K
section
variable {P:Program} {kl:List Bool} {n:Nat} {B:Bs} {ops:List Oper} {K:ey->List Ob->Prop} {l:Plan} {obs:List En} {E:ey} {H:List Ob}
theorem wh{k:Nat}{o:Oper}(b:ops[k]?=some o):looks ops.toArray k=rG ops o:=by
 unfold looks rG;simp only[getElem?_toArray,b];cases o.guard with
 |none=>rfl
 |some c =>
  obtain⟨j,a⟩:=c;simp only;cases ops[j]? with
  |none=>rfl
  |some d =>
   simp only[Option.bind_some];first
    |done
    |(cases d.dst <;> rfl)
theorem kI{p:Nat->Bool}{S:ey}:∀{b:List Operand},FK p S b->Agree b S (fZ p S)
 |[],_,x,a=>by cases a
 |y::ys,h,x,a=>by
  rcases mem_cons.1 a with rfl|a
  .cases x with
   |tmp t=>simp only[eN,sH];exact h.1.symm
   |_=>rfl
  .have:FK p S ys:=by cases y <;> first|exact h.2|exact h
   exact kI this x a
theorem ml{k:Nat}{o:Oper}(b:ops[k]?=some o){S:ey}{v:Va}{a:Option (Nat->Bool)}(h:L9 ops o S v a):lh a v=v/\Agree (looks ops.toArray k) S (pE a S):=by
 cases a with
 |none=>exact⟨rfl,Agree.refl _ _⟩
 |some p=>exact⟨h.1,by rw[wh b];exact kI h.2⟩
theorem yL{o:Oper}(a:o.guard=none)(g:Bool)(v:Va):iA o.guard g v=v:=by rw[a];rfl
theorem uL{o:Oper}{x:Nat×Bool}(a:o.guard=some x)(g:Bool)(v:Va):iA o.guard g v=.cnd g v:=by rw[a];rfl
theorem uM{b:List Oper}:∀{l:Plan} {a:Aw},kN P kl n B b.toArray K (gO P kl n ops l a)->a.ok
 |.nil,a,h=>h.1
 |.fk _ _ _ _ _ _,a,h=>h.1
 |.f3 _ _ _ _ _ _ _ _ _,a,h=>h.1
 |.rd k l,a,h=>by
  unfold gO at h;split at h
  .split at h
   .exact h.1
   .split at h
    .exact(uM h).1
    .split at h
     .exact(uM h).1
     .exact h.1.elim
  .exact h.1.elim
 |.ef k L l,a,h=>by
  unfold gO at h;split at h
  .split at h
   .exact h.1
   .split at h
    .exact(uM h).1
    .split at h
     .exact(uM h).1
     .exact(uM h).1
     .exact h.1.elim
  .exact h.1.elim
theorem iz{k:Nat}{o:Oper}(a:ops[k]?=some o):ops.toArray[k]?=some o:=by rw[getElem?_toArray];exact a
theorem kS{k:Nat}{o:Oper}(a:ops[k]?=some o):gC ops.toArray k=o.dst:=by simp[gC,a]
theorem vK{k:Nat}{o:Oper}{j:Nat}{b:Bool}{v:Va}(e:ops[k]?=some o)(i:o.guard=some (j,b))(hb:je ops E j b=some false)(m:gx n o.dst):Rdr P kl n B ops.toArray k E (.cnd false v) H:=by
 intro u f a w Q x l c;rw[kS e]at c;have d:je ops.toArray.toList E j b=some false:=by simpa using hb
 rw[<-CW (iz e) i f]at d;have p:=sG l i d;unfold wpOp;simp only[iz e];rw[if_neg (by rw[p];simp)];obtain⟨Kk,G,q,r,s,g,t,h⟩:=l;exact c _ _ (RelV.put (C:=cx P kl n B) (v:=.cnd false v) ⟨Kk,G,q,r,s,g,t,h,by simp[VR]⟩ o.dst (zY m))
theorem Dr.run:∀{l:Plan} {e:Aw},kN P kl n B ops.toArray K (gO P kl n ops l e)->Dr P kl n B ops.toArray l e.obs e.E e.H K
 |.nil,e,h=>Dr.nil h.2
 |.fk _ _ _ _ _ _,e,h=>h.2
 |.f3 _ _ _ _ _ _ _ _ _,e,h=>h.2
 |.rd k l,e,h=>by
  unfold gO at h;split at h;rotate_left
  .exact h.1.elim
  rename_i o d;split at h
  .exact h.2
  split at h
  .rename_i c;have a:=(uM h).2;have b:=Dr.run h;simp only[oB]at b;rw[<-kS d]at b;refine dD (fun _=>?_) (fun _=>?_) b
   .rw[yL c];exact no (iz d) c a.1 (a.2 rfl)
   .intro r s f;obtain⟨p,i,q⟩:=f;refine⟨?_,ml d q⟩;simp only;rw[yL c,yL c]at i;rw[yL c,<-i];exact no (iz d) c a.1 (p rfl)
  .rename_i j m c;split at h;rotate_left
   .exact h.1.elim
   rename_i g hb;have a:=(uM h).2;have b:=Dr.run h;simp only[oB]at b;rw[<-kS d]at b;refine dD (fun _=>?_) (fun _=>?_) b
   .rw[uL c];exact RX (iz d) c hb a.1 a.2
   .intro r s f;obtain⟨p,i,q⟩:=f;refine⟨?_,ml d q⟩;simp only;rw[uL c,uL c]at i;rw[uL c,<-i];exact RX (iz d) c hb a.1 p
 |.ef k L l,e,h=>by
  unfold gO at h;split at h;rotate_left
  .exact h.1.elim
  rename_i o d;split at h
  .exact h.2
  split at h
  .rename_i c;have a:=(uM h).2;have b:=Dr.run h;simp only[xd]at b;rw[<-kS d]at b;exact Dr.eff (fun _=>w4 (iz d) c a.1 a.2.1) a.2.2 b
  .rename_i j m c;split at h
   .rename_i hb;have a:=(uM h).2;have b:=Dr.run h;simp only[xc]at b;rw[<-kS d]at b;exact Dr.eff (fun _=>AZ (iz d) c hb a.1 a.2.1) a.2.2 b
   .rename_i hb;have a:=(uM h).2;have b:=Dr.run h;simp only[xb]at b;rw[<-kS d]at b;exact dc (Br.skip (fun _=>vK d c hb a) b)
   .exact h.1.elim
theorem Br.run{k:Nat}{L:List Nat}{o:Oper}(c:Is ops[k]? (some o))(d:Is o.guard none)(h:kN P kl n B ops.toArray K (gO P kl n ops l (xd n o L (jz P E H o.op) ⟨obs,E,H,True⟩ (gh P (eI kl) E H o.op)))):Br P kl n B ops.toArray k L l obs E H K:=by unfold Is at *;have a:=(uM h).2;have b:=Dr.run h;simp only[xd]at b;rw[<-kS c]at b;exact Br.eff (fun _=>w4 (iz c) d a.1 a.2.1) a.2.2 b
theorem dl{id:Nat}{a:List Oper}{y:Code}{Q:Qt}(plan:Plan)(hm:P.follows .mixedOrders=true)(e:plan.length=a.length)(f:iJ a.toArray plan [] (Array.replicate a.length false)=true)
  (h:∀K:ey->List Ob->Prop,(∀E H,Wp P kl n B y Q E H->K E H)->kN P kl n B a.toArray K (gO P kl n a plan ⟨[],E,H,True⟩)):Wp P kl n B (.seq (.region id a.toArray true) y) Q E H :=
 Wp.seq fun _ g=>dG plan hm e f fun i b=>Dr.run (h i fun c d j=>b c d (g c d j))
theorem oG{o:Oper}{c:Call}{g:Operand}{f:FuncId}{i args:List Va}{v:Va}(hs:Does P f args [] fun r X=>r=v/\X=[])(I:o.op=.call c)(J:c.callee=.value g)
  (p:opOk true E g/\allOk true E c.args.toList) (K:opnd E g=.fn f i) (L:js H (opnds E c.args.toList++i)=some args) (j:v.flat=true) {a:Act} {w:World} {Q:Exit->Act->World->Prop} {D:Act->World->Prop} (M:Rel (cx P kl n B) E H a w)
  (N:∀t w',RelV (cx P kl n B) E H t v a w'->D (a.put o.dst t) w'):o.wp P a w D Q:=by
 obtain⟨Kk,G,O,q,u,x,R,y⟩:=M;have k:=zG u rfl g p.1;rw[K]at k;simp only[VR]at k;obtain⟨cs,z,A⟩:=k;have l:=x9 u rfl c.args.toList p.2;have s:=yF q L (l.append A);unfold Oper.wp;rw[Gb I J z hs.1];simp only[Oper.upon];refine(hs.2 (uv Kk G) [] w _ (St.nil (MU q) (q.tb.mono ⟨fun _ h=>.inl h,fun _ _=>rfl⟩)) s).mono ?_;rintro e w' ⟨t,r,U,V,W,rfl,⟨rfl,rfl⟩,d,S,T,_⟩;have F:∀b,b<w.heap.size->w'.heap[b]?=w.heap[b]?:=fun b hb=>d.frame b hb (fun o Y h=>by simp at h);have C:Ext (eI kl) B.K0 B.G0 B.w0 Kk G w':=by
  refine O.trans { Ext.refl (eI kl) Kk G w with
   os:=d.os,tape:=d.tape,output:=d.output,size:=d.size,frame:=fun b hb _=>F b hb }
 exact N t w' ⟨Kk,G,C,q.after d,fun m=>VR.keep (f:=fun _=>true) ⟨fun _ h=>h,fun b hb=>F b (q.kb b hb)⟩ (Mg.refl _ G) _ _ (Va.all_true _) (u m),x,R,y,Ha j T⟩
theorem nq{k:Nat}{o:Oper}{c:Call}{fop:Operand}{f:FuncId}{i args:List Va}{g:Bool}{v:Va}(hs:g=true->Does P f args [] fun r X=>r=v/\X=[])(y:ops[k]?=some o)(A:o.op=.call c)(D:c.callee=.value fop)
  (s:match o.guard with|none=>g=true|some (j,b)=>je ops E j b=some g) (F:gx n o.dst) (l:opOk g E fop/\allOk g E c.args.toList) (I:opnd E fop=.fn f i) (J:js H (opnds E c.args.toList++i)=some args) (d:v.flat=true) :
  Rdr P kl n B ops.toArray k E (iA o.guard g v) H:=by
 intro E' t a w Q K' z q;have m:=yC (iz y) t;rw[A]at m;have u:eN E fop=eN E' fop:=m fop (by simp[Op.operands,Call.operands,D]);have M:Agree c.args.toList E E':=fun x O=>m x (by simp only[Op.operands,Call.operands,Array.toList_append,mem_append];exact .inr O);rw[Agree.opOk u,Agree.allOk M]at l;rw[Agree.opnd u]at I;rw[Agree.opnds M]at J;rw[kS y]at q;unfold wpOp;simp only[iz y];cases h:o.guard with
 |none =>
  rw[h]at s q;subst s;rw[if_pos (by simp[Region.wanted,h])];exact .inl (oG (hs rfl) A D l I J d z fun R S p=>q _ _ (p.put o.dst (zY F)))
 |some T =>
  obtain⟨j,b⟩:=T;rw[h]at s q;simp only at s;have hb:je ops.toArray.toList E j b=some g:=by simpa using s
  rw[<-CW (iz y) h t]at hb;have N:=sG z h hb;cases g with
  |true =>
   rw[if_pos N];exact .inl (oG (hs rfl) A D l I J d z fun R S p=>q _ _ (RelV.put (v:=.cnd true v) (by
    obtain⟨Kk,G,U,V,W,Y,Z,h6,h7⟩:=p;exact⟨Kk,G,U,V,W,Y,Z,h6,by simp only[VR];exact⟨fun _=>h7,fun e=>Bool.noConfusion e⟩⟩) o.dst (zY F)))
  |false =>
   rw[if_neg (by rw[N];simp)];obtain⟨Kk,G,hX,hS,hE,K,hn,L⟩:=z;exact q _ _ (RelV.put (C:=cx P kl n B) (v:=.cnd false v) ⟨Kk,G,hX,hS,hE,K,hn,L,by simp[VR]⟩ o.dst (zY F))
def g9(E:ey)(o:Oper):Option (FuncId×List Va):=match o.op with
 |.call c=>match c.callee with
  |.value b=>match opnd E b with
   |.fn f a=>some (f,opnds E c.args.toList++a)
   |_=>none
  |_=>none
 |_=>none
def iK(b:List Oper)(E:ey)(o:Oper):Option Bool:=match o.guard with
 |none=>some true
 |some (j,a)=>je b E j a
theorem Dr.callF{k:Nat}{f:FuncId}{av args:List Va}{g:Bool}{o:Oper}{v:Va}(hs:g=true->Does P f args [] fun r X=>r=v/\X=[])(q:Is ops[k]? (some o))(a:Is (g9 E o) (some (f,av)))(b:Is (iK ops E o) (some g))(C:Is (js H av) (some args))(s:ie n g E o)(x:Is v.flat true)
  (d:kN P kl n B ops.toArray K (gO P kl n ops l ⟨⟨k,E,iA o.guard g v,p5 ops o E (iA o.guard g v) av args⟩::obs,eP E o.dst (iA o.guard g v),H,True⟩)):Dr P kl n B ops.toArray (.rd k l) obs E H K:=by
 unfold Is at *;unfold g9 at a;split at a;rotate_left
 .cases a
 rename_i c t;split at a;rotate_left
 .cases a
 rename_i D u;split at a;rotate_left
 .cases a
 rename_i F y z;cases a;obtain⟨A,e,h⟩:=qQ s t u;have i:match o.guard with|none=>g=true|some (j,m)=>je ops E j m=some g:=by
  unfold iK at b;revert b;cases o.guard with
  |none=>exact fun b=>(Option.some.inj b).symm
  |some G=>exact fun b=>b
 have w:=Dr.run d;simp only at w;rw[<-kS q]at w;refine dD (fun _=>nq hs q t u i A ⟨e,h⟩ z C x) (fun _=>?_) w;intro I J p;exact⟨nq hs q t u i A ⟨e,h⟩ z p.1 x,ml q p.2⟩
end
attribute [go_sem] pl gO kN oB xd xc xb iA xw ug vJ p5 L9 FK rG pE jz ph Ad g9 iK iJ Op.operands
def Ke(m:Nat)(a:Va->List Ob->Prop)(r:Va)(X:List Ob):Prop :=
 gf r r/\leH X X/\X.length=m/\r.all (fun o=>decide (o<m))=true/\iv (fun o=>decide (o<m)) X=true/\a r X
def retF(m:Nat)(c:List Bool)(a:Va->List Ob->Prop)(H:List Ob)(b:Pv):Prop :=
 b.ok/\c.length<=m/\m<=H.length/\Ke m a (gJ m H b.v) (gl m H (H.take m))
theorem rg{P:Program}{b:List ResultVar}{m:Nat}{c:List Bool}{a:Va->List Ob->Prop}{E:ey}{H:List Ob}(h:retF m c a H (gY P E H b)):i6 P b m c a E H:=by obtain⟨f,g,i,j,k,l,d,e,n⟩:=h;exact⟨f,g,i,d,e,_,_,j,k,l,d,e,n⟩
section
variable {P:Program} {kl:List Bool} {n:Nat} {B:Bs} {rs:List ResultVar} {m:Nat} {Post:Va->List Ob->Prop} {E:ey} {H:List Ob}
theorem uH(h:Vc.retF m kl Post H (gY P E H rs)):s3 P rs m kl Post .ret E H:=rg h
theorem zJ(h:Vc.retF m kl Post H (gY P E H rs)):s3 P rs m kl Post .normal E H:=rg h
end
section
variable {P:Program} {kl:List Bool} {n:Nat} {B:Bs} {K:ey->List Ob->Prop} {E:ey} {H:List Ob} {ops:Array Oper}
theorem dy{o:Oper}{l:List Oper}{f:FuncId}{av args:List Va}{g:Bool}{v:Va}(hs:g=true->Does P f args [] fun r X=>r=v/\X=[])(a:Is (g9 E o) (some (f,av)))(hb:Is (iK ops.toList E o) (some g))(q:Is (js H av) (some args))(h:ie n g E o)(s:Is v.flat true)
  (b:(g=true->v.ok)->fz P kl n B ops K (fv P kl n ops.toList l ⟨eP E o.dst (iA o.guard g v),H,True⟩)):Rg P kl n B ops (o::l) E H K:=by
 unfold Is g9 at a;unfold Is iK at hb;split at a;rotate_left
 .cases a
 rename_i c i;split at a;rotate_left
 .cases a
 rename_i z k;split at a;rotate_left
 .cases a
 rename_i C t u;cases a;obtain⟨w,x⟩:=qQ h i k;cases d:o.guard with
 |none =>
  rw[d]at hb;obtain rfl:true=g:=Option.some.inj hb;have hs:=hs rfl;refine eo hs i d k w x u q fun r D ⟨m,_⟩ p=>⟨m ▸ s,?_⟩;have e:=b fun _=>m ▸ p;rw[yL d]at e;exact m ▸ Rg.run e
 |some A =>
  obtain⟨j,y⟩:=A;rw[d]at hb;refine Rg.callG v hs i d hb k w x u q s fun p=>?_;have e:=b p;rw[uL d]at e;exact Rg.run e
end
section
variable {P:Program} {kl:List Bool} {n:Nat} {B:Bs} {ops:List Oper} {K:ey->List Ob->Prop} {l:Plan} {obs:List En} {E:ey} {H:List Ob}
end
theorem kU{n:Int}(a:-9223372036854775808<=n)(b:n<=9223372036854775807):IntKind.i64.wrap n=n:=by simp only[IntKind.wrap,IntKind.bits,IntKind.signed];simp;omega
theorem I6{n:Int}(a:0<=n)(b:n<=255):IntKind.u8.wrap n=n:=by simp only[IntKind.wrap,IntKind.bits,IntKind.signed];simp;omega
attribute [go_sem] Ke retF Nat.le_refl Fits lo hi replicate_succ replicate_zero length_set contains_nil contains_cons Bool.or_false Bool.false_or eE
attribute [-go_sem] i6
inductive Sh where
 |b
 |i (k:IntKind)
 |s
 |l (e:List Sh)
def vx(P:Program)(r:TypeId->Option (List Sh)):Nat->List Field->Option (List Sh)
 |_,[]=>some []
 |a,f::b=>match r f.type with
  |some x=>if f.offset=a/\P.cellsOf f.type=x.length then match vx P r (a+x.length) b with
   |some y=>some (x++y)
   |none=>none
   else none
  |none=>none
def yd(P:Program):Nat->TypeId->Option (List Sh)
 |0,_=>none
 |m+1,t=>match P.underlying t with
  |some .bool=>some [.b]
  |some (.int k)=>some [.i k]
  |some .string=>some [.s]
  |some (.slice e)=>match yd P m e with
   |some x=>if P.cellsOf e=x.length/\0<x.length then some [.l x]else none
   |none=>none
  |some (.struct a)=>match vx P (yd P m) 0 a.toList with
   |some x=>if P.cellsOf t=x.length then some x else none
   |none=>none
  |_=>none
mutual
def eK:Dt->Sh->Prop
 |.b _,.b=>True
 |.i k _,.i c=>k=c
 |.s _,.s=>True
 |.l a,.l e=>yi a e
 |_,_=>False
def eT:List Dt->List Sh->Prop
 |[],[]=>True
 |d::a,e::b=>eK d e/\eT a b
 |_,_=>False
def yi:List (List Dt)->List Sh->Prop
 |[],_=>True
 |r::a,e=>eT r e/\yi a e
end
mutual
def kO:Dt->Nat
 |.b _=>1
 |.i _ _=>1
 |.s x=>x.length+1
 |.l c=>kR c+1
 |.a d=>fQ d+1
 |.r _=>1
def fQ:List Dt->Nat
 |[]=>0
 |d::a=>kO d+fQ a
def kR:List (List Dt)->Nat
 |[]=>0
 |r::a=>fQ r+kR a
end
mutual
def ga{H:Type}:DataW H->Nat
 |.lit (.string b)=>b.length+1
 |.lit _=>1
 |.nil=>1
 |.ptr d=>ga d+1
 |.slice c e=>gP c+gP e+1
 |.agg f=>gP f+1
 |.iface _ d=>ga d+1
 |.map a=>i2 a+1
 |.held _=>1
def gP{H:Type}:List (DataW H)->Nat
 |[]=>0
 |d::r=>ga d+gP r
def i2{H:Type}:List (Lit×DataW H)->Nat
 |[]=>0
 |x::r=>xk x+i2 r
def xk{H:Type}:Lit×DataW H->Nat
 |(.string a,d)=>a.length+ga d+1
 |(_,d)=>ga d+1
end
theorem RZ:∀{a b:List Dt} {x y:List Sh},eT a x->eT b y->eT (a++b) (x++y)
 |[],_,[],_,_,h=>h
 |d::f,_,e::g,_,h,c=>by simp only[cons_append,eT]at *;exact⟨h.1,RZ h.2 c⟩
 |[],_,_::_,_,h,_=>by simp[eT]at h
 |_::_,_,[],_,h,_=>by simp[eT]at h
theorem Gq:∀{a:List Dt} {x:List Sh},eT a x->a.length=x.length
 |[],[],_=>rfl
 |d::b,e::c,h=>by simp only[eT]at h;simp[Gq h.2]
 |[],_::_,h=>by simp[eT]at h
 |_::_,[],h=>by simp[eT]at h
theorem Sf:∀a b:List Dt,fQ (a++b)=fQ a+fQ b
 |[],b=>by simp[fQ]
 |d::a,b=>by simp only[cons_append,fQ,Sf a b];omega
theorem SB{H:Type}:∀l:List (DataW H),l.length<=gP l
 |[]=>by simp[gP]
 |d::l=>by
  have a:=SB l;have b:1<=ga d:=by
   cases d with
   |lit l=>cases l <;> simp[ga]
   |_=>simp[ga]
  simp only[length_cons,gP];omega
theorem yP{k:IntKind}{n:Int}(h:(Lit.int k n).wf=true):Fits k n:=by
 simp only[Lit.wf,Bool.and_eq_true,decide_eq_true_eq]at h;cases k <;> simpa [Fits,lo,hi,IntKind.min,IntKind.max,IntKind.signed,IntKind.bits]using h
section
variable {H:Type} {enc:TypeId×Value->H} {P:Program} {w:World}
abbrev yg(w:World):Nat->Prop:=fun b=>b<w.heap.size
def Rb(w:World)(cs:List Value)(d:DataW H)(b:List Sh):Prop:=∃a,DRs (yg w) w.heap cs a/\eT a b/\fQ a<=ga d
theorem oF{a:Addr}{n:Nat}{cs:List Value}(l:0<n)(h:w.cells? 0 a n=some cs):cs.length=n/\a.block<w.heap.size/\a.spot=none/\∃c T f,w.heap[a.block]?=some (.cells c T f)/\∀j v,cs[j]?=some v->c[a.off+j]?=some v:=by
 obtain⟨_,m,i⟩:=World.cells?_some h;have e:=i 0 l;have g:0<cs.length:=by omega
 rw[getElem?_eq_getElem g]at e;unfold World.cell? at e;have p:a.add 0=a:=rfl;rw[p]at e;split at e;rotate_left
 .cases e
 rename_i c T f hb;split at e
 .cases e
 rename_i hs;have hs:a.spot=none:=by simpa using hs
 refine⟨m,(Array.getElem?_eq_some_iff.1 hb).1,hs,c,T,f,hb,fun j v k=>?_⟩;have q:=(List.getElem?_eq_some_iff.1 k).1;have d:=i j (by omega);obtain⟨b,o,s⟩:=a;simp only at hs hb|-;subst hs;rw[mz]at d;unfold World.cell? at d;simp only[hb]at d;rw[<-k,<-d];rfl
theorem kq{r:TypeId->Option (List Sh)}{n:Nat}{cs:List Value}
  (m:∀t cs x a,DataW.trod enc P w 0 (fun _=>true) true n t cs=some x->r t=some a->ga x.1<=eE->Rb w cs x.1 a) :
  ∀(c:List Field) (off:Nat) (a:List Sh) (b:List (DataW H×List MemPlace)),vx P r off c=some a->b.length=c.length ->
   (∀(i:Nat) (f:Field),c[i]?=some f->DataW.trod enc P w 0 (fun _=>true) true n f.type ((cs.drop f.offset).take (P.cellsOf f.type))=b[i]?)->gP (b.map (·.1))<=eE ->
   ∃row,DRs (yg w) w.heap ((cs.drop off).take a.length) row/\eT row a/\fQ row<=gP (b.map (·.1))
 |[],off,a,b,h,j,_,_=>by
  simp only[vx]at h;cases h;exact⟨[],by simp[DRs],by simp[eT],by simp[fQ]⟩
 |f::c,off,a,[],_,j,_,_=>by simp at j
 |f::c,off,a,y::b,h,j,o,hb=>by
  simp only[vx]at h;split at h;rotate_left
  .cases h
  rename_i x s;split at h;rotate_left
  .cases h
  rename_i d;split at h;rotate_left
  .cases h
  rename_i z u;cases h;simp only[map_cons,gP]at hb|-;have p:=o 0 f rfl;simp only[getElem?_cons_zero]at p;obtain⟨row,q,v,C⟩:=m _ _ _ _ p s (by omega);obtain⟨e,k,l,A⟩:=kq m c (off+x.length) z b u (by simpa using j) (fun i g B=>by simpa using o (i+1) g (by simpa using B)) (by omega);rw[d.1,d.2]at q;refine⟨row++e,?_,RZ v l,by rw[Sf];omega⟩;rw[length_append,take_add,drop_drop];exact q.append k
theorem ov{n c:Nat}{e:TypeId}{g:List Sh}{b off:Nat}{k:Array Value}{T:TypeId}{C:Nat×Nat}(hb:w.heap[b]?=some (.cells k T C))(s:0<c)(l:g.length=c)
  (t:∀cs x,DataW.trod enc P w 0 (fun _=>true) true n e cs=some x->ga x.1<=eE->Rb w cs x.1 g) :
  ∀(a:List (DataW H×List MemPlace)) (f:Nat),(∀i,i<a.length->(w.cells? 0 ((⟨b,off,none⟩:Addr).add ((f+i)*c)) c).bind (DataW.trod enc P w 0 (fun _=>true) true n e)=a[i]?)->gP (a.map (·.1))<=eE ->
   ∃m rows,rows.length=a.length/\DRss (yg w) w.heap c m rows/\(∀j v,m[j]?=some v->k[off+f*c+j]?=some v)/\yi rows g/\kR rows<=gP (a.map (·.1))
 |[],_,_,_=>⟨[],[],rfl,by simp[DRss],by simp,by simp[yi],by simp[kR]⟩
 |y::a,f,u,q=>by
  simp only[map_cons,gP]at q|-;have z:=u 0 (by simp);simp only[Nat.add_zero,getElem?_cons_zero,Option.bind_eq_some_iff]at z;obtain⟨cs,o,D⟩:=z;rw[mz]at o;obtain⟨L,_,_,A,M,E,h,d⟩:=oF s o;simp only at h d;rw[hb]at h;cases h;obtain⟨r,F,B,N⟩:=t _ _ D (by omega);obtain⟨m,rows,G,I,J,K,O⟩:=ov hb s l t a (f+1) (fun i hi=>by
   have:=u (i+1) (by simpa using hi);rw[show f+(i+1)=f+1+i by omega]at this;simpa using this) (by omega)
  refine⟨cs++m,r::rows,by simp[G],?_,fun j v p=>?_,by simp only[yi];exact⟨B,K⟩,by simp only[kR];omega⟩
  .simp only[DRss];exact⟨cs,m,rfl,by rw[Gq B,l],F,I⟩
  .rw[getElem?_append]at p;split at p
   .exact d j v p
   .have:=J _ v p;rw[Nat.add_mul]at this;rw[show off+f*c+j=off+(f*c+1*c)+(j-cs.length)by omega];exact this
theorem lf:∀(m n:Nat) (t:TypeId) (cs:List Value) (x:DataW H×List MemPlace) (o:List Sh),DataW.trod enc P w 0 (fun _=>true) true n t cs=some x->yd P m t=some o->ga x.1<=eE->Rb w cs x.1 o
 |0,_,_,_,_,_,_,h,_=>by simp[yd]at h
 |m+1,n,t,cs,x,o,z,h,hb=>by
  simp only[yd]at h;split at h
  .rename_i A;cases h;obtain⟨p,rfl⟩:∃p,n=p+1:=by cases n with|zero=>simp[DataW.trod]at z|succ p=>exact⟨p,rfl⟩
   unfold DataW.trod at z;rw[A]at z;split at z <;> simp_all
   rename_i b;exact⟨[.b b],by simp[DRs,DR],by simp[eT,eK],by rw[<-z];simp[fQ,kO,ga]⟩
  .rename_i k A;cases h;obtain⟨p,rfl,g,u⟩:=DataW.trod_int A z;subst g;exact⟨[.i k p],by simp only[DRs,DR];exact⟨_,_,rfl,⟨rfl,yP u⟩,rfl⟩,by simp[eT,eK],by simp[fQ,kO,ga]⟩
  .rename_i A;cases h;obtain⟨s,rfl,g,u⟩:=DataW.trod_string A z;subst g;simp only[ga]at hb;exact⟨[.s s.data.toList],by simp only[DRs,DR];exact⟨_,_,rfl,⟨rfl,by omega⟩,rfl⟩,by simp[eT,eK],by simp[fQ,kO,ga]⟩
  .rename_i e A;split at h;rotate_left
   .cases h
   rename_i y Q;split at h;rotate_left
   .cases h
   rename_i G;cases h;rcases DataW.trod_slice A z with⟨rfl,rfl⟩|⟨a,I,J,d,B,p,rfl,rfl,rfl,_,hl,_,K,C,R,_⟩
   .exact⟨[.l []],by simp only[DRs,DR];exact⟨_,_,rfl,.inl ⟨⟨none,rfl⟩,trivial⟩,rfl⟩,by simp[eT,eK,yi],by simp[fQ,kO,kR,ga]⟩
   .obtain⟨S,E⟩:=R rfl;simp only[ga]at hb;rcases Nat.eq_zero_or_pos J with rfl|hcp
    .have:I=0:=by omega
     subst this;exact⟨[.l []],by simp only[DRs,DR];exact⟨_,_,rfl,.inl ⟨⟨some a,rfl⟩,trivial⟩,rfl⟩,by simp[eT,eK,yi],by simp[fQ,kO,kR,ga]⟩
    .have L:0<P.cellsOf e:=by rw[G.1];exact G.2
     have first:∃cs0,w.cells? 0 a (P.cellsOf e)=some cs0:=by
      rcases Nat.eq_zero_or_pos I with U|U
      .have g:=E 0 (by omega);have u:B[0]?≠none:=by simp;intro e;subst e;simp at S;omega
       cases F:B[0]? with
       |none=>exact absurd F u
       |some r0 =>
        rw[F,U,Option.bind_eq_some_iff]at g;obtain⟨cs0,V,_⟩:=g;exact⟨cs0,by simpa [Addr.add]using V⟩
      .have g:=C 0 U;have u:d[0]?≠none:=by simp;intro e;subst e;simp at K;omega
       cases F:d[0]? with
       |none=>exact absurd F u
       |some r0 =>
        rw[F,Option.bind_eq_some_iff]at g;obtain⟨cs0,V,_⟩:=g;exact⟨cs0,by simpa [Addr.add]using V⟩
     obtain⟨cs0,M⟩:=first
     obtain⟨_,D,q,W,T,fr,r,_⟩:=oF L M;obtain⟨b,off,s⟩:=a;simp only at D q r;subst q;obtain⟨vs,N,r1,r2,r3,r4,r5⟩:=ov (off:=off) r L G.1.symm (fun cs x g u=>lf m p e cs x y g Q u) d 0 (fun i hi=>by
      rw[Nat.zero_add];exact C i (by omega)) (by omega)
     have O:=SB (d.map (·.1));rw[length_map]at O;refine⟨[.l N],?_,by simp only[eT,eK];exact⟨r4,trivial⟩,by simp only[fQ,kO,ga];omega⟩;simp only[DRs];refine⟨_,_,rfl,?_,rfl⟩;simp only[DR];refine .inr ⟨b,off,J,W,T,fr,P.cellsOf e,vs,by rw[r1,K],D,r,by omega,by omega,fun j v hj=>by simpa using r3 j v hj,r2⟩
  .rename_i fs A;split at h;rotate_left
   .cases h
   rename_i y Q;split at h;rotate_left
   .cases h
   rename_i G;cases h;obtain⟨xs,p,rfl,rfl,X,Y,hf⟩:=DataW.trod_struct A z;simp only[ga]at hb;obtain⟨Z,g,u,F⟩:=kq (n:=p) (cs:=cs) (fun t cs x o a b c=>lf m p t cs x o a b c) fs.toList 0 _ xs Q (by simpa using Y) (fun i f hi=>hf i f (by simpa using hi)) (by omega);rw[drop_zero,<-G,<-X,take_length]at g;exact⟨Z,g,u,by simp only[ga];omega⟩
  .cases h
def xA(ag:Bool)(row:List Dt):Va:=bif ag then .agg (row.map .p)else match row with
 |[d]=>.p d
 |_=>.top
def kD:List Bool->List (List Dt)->List Va
 |b::a,r::c=>xA b r::kD a c
 |_,_=>[]
def Cr:List (List Dt)->List (List Sh)->Prop
 |[],[]=>True
 |r::a,s::b=>eT r s/\Cr a b
 |_,_=>False
theorem FE{G:List Gh}{m:Nat}{t:TypeId}{v:Value}{f:Nat}{d:DataW H}{o:List MemPlace}{g:List Sh}(a:Value.okWide P w .any f t v)(h:DataW.Trod enc P w 0 (fun _=>true) true t v d o)(hs:yd P m t=some g)(hb:ga d<=eE) :
  ∃row,VR (yg w) w.heap G v (xA (eV P t) row)/\eT row g/\fQ row<=ga d:=by
 obtain⟨n,p⟩:=h;obtain⟨row,j,i,q⟩:=lf m n t _ _ _ p hs hb;refine⟨row,?_,i,q⟩;cases m with
 |zero=>simp[yd]at hs
 |succ m =>
  simp only[yd]at hs;unfold Value.okWide at a;have b:∀d,P.underlying t=some d->eV P t=false->v.cells.toList=[v]->row.length=1->VR (yg w) w.heap G v (xA (eV P t) row):=by
   intro _ _ l r s;rw[l];match row,s with
   |[d],_ =>
    rw[r]at j;simp only[DRs]at j;obtain⟨_,_,h,u,_⟩:=j;cases h;simpa only[xA,cond_false,VR]using u
  split at hs
  .rename_i c;cases hs;refine b _ c (by simp[eV,c]) ?_ (by rw[Gq i];rfl);rw[c]at a;simp only[Cell.okWide,c,Cell.ok]at a;cases v <;> first|rfl|exact a.elim
  .rename_i k c;cases hs;refine b _ c (by simp[eV,c]) ?_ (by rw[Gq i];rfl);rw[c]at a;simp only[Cell.okWide,c,Cell.ok]at a;cases v <;> first|rfl|exact a.elim
  .rename_i c;cases hs;refine b _ c (by simp[eV,c]) ?_ (by rw[Gq i];rfl);rw[c]at a;simp only[Cell.okWide,c,Cell.ok]at a;cases v <;> first|rfl|exact a.elim
  .rename_i e c;split at hs;rotate_left
   .cases hs
   split at hs;rotate_left
   .cases hs
   cases hs;refine b _ c (by simp[eV,c]) ?_ (by rw[Gq i];rfl);rw[c]at a;simp only[Cell.okWide,c,Cell.ok]at a;cases v <;> first|rfl|exact a.elim
  .rename_i x c;rw[c]at a;obtain⟨cs,rfl,_⟩:=a;have l:eV P t=true:=by simp[eV,c]
   rw[l];simp only[xA,cond_true,VR];exact⟨cs.toList,by simp,j.vrs⟩
  .cases hs
theorem sq{G:List Gh}{m f:Nat}:∀{g:List TypeId} {c:List Value} {e:List (DataW H)} {i:List MemPlace} {shss:List (List Sh)},(∀(j:Nat) t v,g[j]?=some t->c[j]?=some v->Value.okWide P w .any f t v) ->
  DataW.TrodAll enc P w 0 (fun _=>true) true g c e i->g.map (yd P m)=shss.map some->gP e<=eE->∃rows,VRs (yg w) w.heap G c (kD (g.map (eV P)) rows)/\Cr rows shss/\kR rows<=gP e
 |[],c,e,i,shss,_,h,hs,_=>by
  match c,e,h with
  |[],[],_ =>
   have:shss=[]:=by cases shss <;> simp_all
   subst this;exact⟨[],by simp[kD,VRs],by simp[Cr],by simp[kR]⟩
 |t::g,c,e,i,shss,l,h,hs,hb=>by
  match c,e,h with
  |v::c,d::e,h =>
   obtain⟨p,q,n,o,_⟩:=h;match shss,hs with
   |[],hs=>simp at hs
   |s::z,hs =>
    simp only[map_cons,List.cons.injEq]at hs;simp only[gP]at hb;obtain⟨k,r,u,A⟩:=FE (G:=G) (l 0 t v rfl rfl) n hs.1 (by omega);obtain⟨rows,x,y,B⟩:=sq (G:=G) (fun j t v a b=>l (j+1) t v (by simpa using a) (by simpa using b)) o hs.2 (by omega);refine⟨k::rows,?_,by simp only[Cr];exact⟨u,y⟩,by simp only[kR,gP];omega⟩;simp only[map_cons,kD,VRs];exact⟨v,c,rfl,r,x⟩
theorem TE{f:Func}{s:ChangeSpec}{a l c m:Bool}{W W':World}{args:Array Value}{v:Value}{o q:List (DataW H)}{before pa pv:List MemPlace}
  (y:DataW.Whole enc P f.params.toList s.vars a W args.toList o q before)
  (i:∀(b:Nat) (n:Nat->Bool) (A:Bool),DataW.TrodAll enc P W' b n A f.resultTypes.toList (v.resultList f.resultTypes.size) (s.fn H (o++q)).results [])
  (d:∀n:Nat->Bool,(∀p∈before,n p.block=true)->DataW.TrodAll enc P W' 0 n true f.params.toList args.toList (s.fn H (o++q)).args pa)
  (e:∀n:Nat->Bool,(∀p∈before,n p.block=true)->DataW.TrodVars enc P W' n s.vars (s.fn H (o++q)).vars pv)
  (h:before=pa++pv) (hb:RowKit.Below W.heap.size W W')
  (z:∀(j:Nat) (t:TypeId) (r:Value),f.resultTypes[j]?=some t->(v.resultList f.resultTypes.size)[j]?=some r->Value.okWide P W' .any 0 t r) :
  s.post enc P f a l c m W args v W':=by
 have u:∀p∈before,p.block<W.heap.size:=fun p g=>y.lt p g;have k:∀p∈before,(fun b=>decide (b<W.heap.size)) p.block=true:=fun p g=>by simpa using u p g
 refine⟨o,q,before,[],pa,pv,y,i _ _ _,d _ k,e _ k,World.keptBut_mono (fun p g=>⟨g,?_⟩) (hb.frame (·∈before)),fun _=>?_⟩
 .rw[h,mem_append]at g;exact Or.inr g
 .obtain⟨_,_,_,_,_,B,C⟩:=y;refine⟨z,_,_,([]++pa)++pv,⟨[]++pa,pv,ChangeShapes.trodAll_append (d _ (fun _ _=>rfl)) (i _ _ _),e _ (fun _ _=>rfl),rfl,?_,?_⟩,?_⟩
  .intro b w g;have x:MemPlace.cell b w∈before:=by rw[h];simpa using g
   rw[hb.frozen (u _ x)];exact B b w x
  .intro D;have:=C D;rw[h]at this;simpa using this
  .intro p g _;rw[h];simpa using g
theorem kG(i:laidOutB P=true){W j:World}{k:Nat->Bool}:∀{f:List TypeId} {a:List Value} {b:List (DataW H)} {e:List MemPlace},f.all (fun t=>P.readableRec t&&decide (t<P.types.size))=true ->
  DataW.TrodAll enc P W 0 (fun _=>true) true f a b e->(∀p∈e,W.sameAt j p)->(∀p∈e,k p.block=true)->DataW.TrodAll enc P j 0 k true f a b e
 |[],a,b,e,_,h,_,_=>by
  match a,b,h with
  |[],[],h=>exact h
 |t::f,a,b,e,g,h,hs,l=>by
  match a,b,h with
  |v::a,d::b,h =>
   obtain⟨p,q,m,n,rfl⟩:=h;simp only[all_cons,Bool.and_eq_true,decide_eq_true_eq]at g;exact⟨p,q,WideElems.Trod_stays i g.1.1 g.1.2 m (fun x c=>hs x (by simp[c])) (fun x c=>l x (by simp[c])),
    kG i g.2 n (fun x c=>hs x (by simp[c])) (fun x c=>l x (by simp[c])),rfl⟩
theorem SK{g:Nat->Bool}{i:Bool}{a:Nat}:∀{b:List TypeId} {e:List Value} {c:List (DataW H)} {f:List MemPlace},DataW.TrodAll enc P w a g i b e c f->c.length=b.length
 |[],[],[],_,_=>rfl
 |t::b,v::e,d::c,f,⟨_,_,_,h,_⟩=>by simp[SK h]
 |[],_::_,_,_,h|[],[],_::_,_,h|_::_,[],_,_,h|_::_,_::_,[],_,h=>h.elim
theorem SA:∀a b:List (DataW H),gP (a++b)=gP a+gP b
 |[],b=>by simp[gP]
 |d::a,b=>by simp only[cons_append,gP,SA a b];omega
theorem uj{α:Type}{f:α->List Dt}{e:List Sh}(h:∀r,eT r e->∃a,r=f a):∀{rows:List (List Dt)},yi rows e->∃l:List α,rows=l.map f
 |[],_=>⟨[],rfl⟩
 |r::c,b=>by simp only[yi]at b;obtain⟨a,rfl⟩:=h r b.1;obtain⟨l,rfl⟩:=uj h b.2;exact⟨a::l,rfl⟩
theorem tc{f:FuncId}{fn:Func}{s:ChangeSpec}(N:s.vars=[]){tb:TypeId}(i:fn.resultTypes=#[tb])(u:P.underlying tb=some .bool)
  (U:laidOutB P=true) (E:fn.params.toList.all (fun t=>P.readableRec t&&decide (t<P.types.size))=true) {m:Nat} {shss:List (List Sh)} (F:fn.params.toList.map (yd P m)=shss.map some)
  {W:World} {w:Nat} {args:Array Value} {d I:List (DataW H)} {g:List MemPlace}
  (AK:TabOk (yg W) W.heap) (k:∀d:List (DataW H),d.length=fn.params.toList.length->s.fn H d={ results:=[.lit (.bool true)],args:=d })
  (l:∀rows:List (List Dt),Cr rows shss->kR rows<=gP d->Does P f (kD (fn.params.toList.map (eV P)) rows) [] fun r X=>r=.p (.b true)/\X=[])
  (y:∀(j:Nat) t v,fn.params[j]?=some t->args[j]?=some v->Value.okWide P W .any w t v)
  (O:DataW.Whole enc P fn.params.toList s.vars false W args.toList d I g) (V:gP d<=eE) :
  Calls P f args W fun e W'=>∃v,e=.returned v/\s.post enc P fn false true false false W args v W':=by
 have z:=O;obtain⟨p,q,J,Q,rfl,Y,_⟩:=O;rw[N]at Q;have K:I=[]/\q=[]:=by
  match I,Q with
  |[],h=>exact⟨rfl,h⟩
 obtain⟨rfl,rfl⟩:=K;obtain⟨rows,Z,h2,h3⟩:=sq (G:=[]) (m:=m) (shss:=shss) (fun j t v a b=>y j t v (by simpa using a) (by simpa using b)) J F V;have hS:St (yg W) [] [] W:=⟨rfl,fun _ h=>h,by simp,by simp,by simp,AK⟩;have R:=(l rows h2 h3).2 _ _ _ _ hS Z;rw[show args.toList.toArray=args by simp]at R;refine R.mono ?_;rintro e W' ⟨c,r,X',K',G',rfl,⟨rfl,rfl⟩,A,hS',B,_⟩;simp only[VR,DR]at B;subst B;refine⟨_,rfl,?_⟩;have hb:RowKit.Below W.heap.size W W':=⟨A.os,A.tape.1,A.output,A.size,fun b hb=>A.frame b hb (fun o g0 h=>by simp at h)⟩;have L:∀x∈p,x.block<W.heap.size:=fun x C=>z.lt x (by simpa using C);have n:s.fn H (d++[])={ results:=[.lit (.bool true)],args:=d }:=by rw[append_nil];exact k d (SK J)
 refine TE (pa:=p) (pv:=[]) z (fun b S hd=>?_) (fun S T=>?_) (fun S T=>?_) rfl hb ?_
 .rw[n,i];exact⟨[],[],⟨1,by simp[DataW.trod,Value.cells,u]⟩,rfl,rfl⟩
 .rw[n];exact kG U E J (fun x C=>hb.same (L x C)) (fun x C=>T x (by simpa using C))
 .rw[n,N];rfl
 .intro j t r D M;rw[i]at D M;match j with
  |0 =>
   simp[Value.resultList]at D M;subst D;subst M;simp[Value.okWide,u,Cell.okWide,Cell.ok]
  |j+1=>simp at D
end
section
variable {Z A S:Type} {α:Type}
def eA(p:Prop)[Decidable p](m:Option Z):Option Z:=if p then m else none
def call(a:Option A)(k:A->Option Z):Option Z:=match a with
 |some x=>k x
 |none=>none
def callG(g:Bool)(a:Option A)(d:A)(k:A->Option Z):Option Z:=match g with
 |true=>call a k
 |false=>k d
def eL(l:List α)(i:Int)(k:α->Option Z):Option Z:=if 0<=i then match l[i.toNat]? with
 |some x=>k x
 |none=>none
 else none
def fI(s:List UInt8)(i:Int)(k:Int->Option Z):Option Z:=if 0<=i then match s[i.toNat]? with
 |some x=>k (x.toNat:Int)
 |none=>none
 else none
def jp(F:S->Option Z)(m:(S->Option Z)->Option Z):Option Z:=m F
def forL:List α->Nat->(Nat->α->S->(S->Option Z)->(S->Option Z)->Option Z)->S->(S->Option Z)->Option Z
 |[],_,_,s,k=>k s
 |x::l,i,f,s,k=>f i x s (fun a=>forL l (i+1) f a k) k
def forC:Nat->Nat->(Nat->S->(S->Option Z)->(S->Option Z)->Option Z)->S->(S->Option Z)->Option Z
 |0,_,_,s,k=>k s
 |n+1,i,f,s,k=>f i s (fun a=>forC n (i+1) f a k) k
def loopN:Nat->(S->(S->Option Z)->(S->Option Z)->Option Z)->S->(S->Option Z)->Option Z
 |0,_,_,_=>none
 |n+1,f,s,k=>f s (fun a=>loopN n f a k) k
def ff:Nat:=1099511627776
abbrev ev:=List UInt8
def xY(s:ev):List Int:=s.map fun b=>(b.toNat:Int)
def strOf(l:List Int):ev:=l.map fun n=>UInt8.ofNat n.toNat
theorem zh{z:Z}{p:Prop}[Decidable p]{m:Option Z}(h:eA p m=some z):p/\m=some z:=by
 unfold eA at h;split at h
 .exact⟨by assumption,h⟩
 .cases h
theorem zd{z:Z}{a:Option A}{k:A->Option Z}(h:call a k=some z):∃x,a=some x/\k x=some z:=by
 cases a with
 |none=>cases h
 |some x=>exact⟨x,rfl,h⟩
theorem zx{z:Z}{g:Bool}{a:Option A}{d:A}{k:A->Option Z}(h:callG g a d k=some z):∃x,(g=true->a=some x)/\k x=some z:=by
 cases g with
 |true=>obtain⟨x,b,c⟩:=zd h;exact⟨x,fun _=>b,c⟩
 |false=>exact⟨d,fun e=>Bool.noConfusion e,h⟩
theorem Of{z:Z}{c:Bool}{x y:Option Z}(h:(bif c then x else y)=some z)(a:c=true):x=some z:=by rw[a]at h;exact h
theorem Og{z:Z}{c:Bool}{x y:Option Z}(h:(bif c then x else y)=some z)(a:c=false):y=some z:=by rw[a]at h;exact h
theorem gk{z:Z}{l:List α}{i:Int}{k:α->Option Z}(h:eL l i k=some z) :
  ∃x,(0<=i/\i<(l.length:Int))/\(∀(e:α->List Dt) (d:List Dt),(l.map e).getD i.toNat d=e x)/\l[i.toNat]?=some x/\k x=some z:=by
 unfold eL at h;split at h;rotate_left
 .cases h
 split at h
 .rename_i x a;have:=(List.getElem?_eq_some_iff.1 a).1;exact⟨x,⟨by assumption,by omega⟩,fun e d=>by simp[getD_eq_getElem?_getD,a],a,h⟩
 .cases h
theorem mK{z:Z}{s:List UInt8}{i:Int}{k:Int->Option Z}(h:fI s i k=some z) :
  ∃c,(0<=i/\i<(s.length:Int))/\(((s.getD i.toNat 0).toNat:Int)=c)/\k c=some z:=by
 unfold fI at h;split at h;rotate_left
 .cases h
 split at h
 .rename_i x a;have:=(List.getElem?_eq_some_iff.1 a).1;exact⟨_,⟨by assumption,by omega⟩,by simp[getD_eq_getElem?_getD,a],h⟩
 .cases h
theorem zo{z:Z}{F:S->Option Z}{m:(S->Option Z)->Option Z}(h:jp F m=some z):∃k,(∀s,k s=some z->F s=some z)/\m k=some z:=⟨F,fun _ h=>h,h⟩
theorem zq{z:Z}{l:List α}{i:Nat}{f:Nat->α->S->(S->Option Z)->(S->Option Z)->Option Z}{s:S}{F:S->Option Z}(h:forL l i f s F=some z):∃k,(∀s,k s=some z->F s=some z)/\forL l i f s k=some z:=⟨F,fun _ h=>h,h⟩
theorem tt{z:Z}{n i:Nat}{f:Nat->S->(S->Option Z)->(S->Option Z)->Option Z}{s:S}{F:S->Option Z}(h:forC n i f s F=some z):∃k,(∀s,k s=some z->F s=some z)/\forC n i f s k=some z:=⟨F,fun _ h=>h,h⟩
theorem ii{z:Z}{n:Nat}{f:S->(S->Option Z)->(S->Option Z)->Option Z}{s:S}{F:S->Option Z}(h:loopN n f s F=some z):∃k,(∀s,k s=some z->F s=some z)/\loopN n f s k=some z:=⟨F,fun _ h=>h,h⟩
theorem jj{z:Z}{l:List α}{i:Nat}{f:Nat->α->S->(S->Option Z)->(S->Option Z)->Option Z}{s:S}{k:S->Option Z}(h:forL (l.drop i) i f s k=some z)(hi:i<l.length) :
  ∃x b,(∀(e:α->List Dt) (d:List Dt),(l.map e).getD i d=e x)/\(∀d,l.getD i d=x)/\(∀a,b a=some z->forL (l.drop (i+1)) (i+1) f a k=some z)/\f i x s b k=some z:=by
 rw[drop_eq_getElem_cons hi]at h;exact⟨l[i],fun a=>forL (l.drop (i+1)) (i+1) f a k,fun e d=>by simp[getD_eq_getElem?_getD,hi],fun d=>by simp[getD_eq_getElem?_getD,hi],fun _ h=>h,h⟩
theorem jg{z:Z}{l:List α}{i:Nat}{f:Nat->α->S->(S->Option Z)->(S->Option Z)->Option Z}{s:S}{k:S->Option Z}(h:forL (l.drop i) i f s k=some z)(hi:¬ i<l.length):k s=some z:=by rw[drop_eq_nil_of_le (by omega)]at h;exact h
theorem tr{z:Z}{n i:Nat}{f:Nat->S->(S->Option Z)->(S->Option Z)->Option Z}{s:S}{k:S->Option Z}(h:forC (n-i) i f s k=some z)(hi:i<n) :
  ∃a,(∀b,a b=some z->forC (n-(i+1)) (i+1) f b k=some z)/\f i s a k=some z:=by
 rw[show n-i=(n-(i+1))+1 by omega]at h;exact⟨_,fun _ h=>h,h⟩
theorem wK{z:Z}{n i:Nat}{f:Nat->S->(S->Option Z)->(S->Option Z)->Option Z}{s:S}{k:S->Option Z}(h:forC (n-i) i f s k=some z)(hi:¬ i<n):k s=some z:=by rw[show n-i=0 by omega]at h;exact h
theorem MH{l:List α}{e:α->List Dt}{d:α}{i:Nat}:(l.map e).getD i (e d)=e (l.getD i d):=by
 simp only[getD_eq_getElem?_getD,getElem?_map];cases l[i]? <;> rfl
theorem ik{l:List α}{e:α->List Dt}{d:α}{i:Nat}(hi:i<l.length)(z:List Dt):(l.map e).getD i z=e (l.getD i d):=by simp[getD_eq_getElem?_getD,hi]
theorem sM{β:Type}(n:Nat)(f:α->β)(l:List α):(l.map f).take n=(l.take n).map f:=by rw[map_take]
theorem tC{β:Type}(n:Nat)(f:α->β)(l:List α):(l.map f).drop n=(l.drop n).map f:=by rw[map_drop]
theorem oP{β:Type}(f:α->β)(a b:List α):a.map f++b.map f=(a++b).map f:=by rw[map_append]
theorem A7(l:List UInt8):(ByteArray.mk l.toArray).data.toList=l:=by simp
theorem xa:((⟨#[]⟩:ByteArray).data.toList:List UInt8)=[]:=rfl
theorem lw{i n:Nat}(h:decide ((i:Int)<(n:Int))=true):i<n:=by simpa using h
theorem ux{i n:Nat}(h:decide ((i:Int)<(n:Int))=false):¬ i<n:=by simpa using h
theorem iL{i n:Nat}(h:i<n)(a:n<=274877906944):IntKind.i64.wrap ((i:Int)+1)=((i+1:Nat):Int):=by rw[kU (by omega) (by omega)];omega
end
section
variable {P:Program} {kl:List Bool} {n:Nat} {B:Bs} {Q:Qt} {E:ey} {H:List Ob}
theorem dV{id:Nat}{a:List Oper}(plan:Plan)(hm:P.follows .mixedOrders=true)(c:plan.length=a.length)(d:iJ a.toArray plan [] (Array.replicate a.length false)=true)
  (h:∀K:ey->List Ob->Prop,(∀E H,Q .normal E H->K E H)->kN P kl n B a.toArray K (gO P kl n a plan ⟨[],E,H,True⟩)):Wp P kl n B (.region id a.toArray true) Q E H :=
 dG plan hm c d fun e b=>Dr.run (h e fun f g i=>b f g i)
end
section
variable {P:Program} {kl:List Bool} {n:Nat} {B:Bs} {Q:Qt} {E:ey} {H:List Ob}
theorem da{x y:Code}(h:∀K:ey->List Ob->Prop,(∀E H,Wp P kl n B y Q E H->K E H)->(∀E H c d,kM kl E H c d->K c d->K E H)->Wp P kl n B x (zz K Q) E H):Wp P kl n B (.seq x y) Q E H:=by
 intro f a w i;refine wp_seq (wp_mono (h _ (fun _ _ h=>h) (fun _ _ _ _ j h=>Wp.weak j h) f a w i) ?_);intro e k l ⟨c,d,g,b⟩;cases e <;> first|exact g f k l b|exact⟨c,d,g,b⟩
theorem Wp.forL{Z S α:Type}{z:Z}{f:Nat->α->S->(S->Option Z)->(S->Option Z)->Option Z}{k:S->Option Z}{l:List α}{c:Code}{j:S}(a:Nat->S->ey)(b:Nat->S->List Ob)(p:kM kl E H (a 0 j) (b 0 j))(hm:Vc.forL l 0 f j k=some z)
  (d:∀(i:Nat) (s:S),i<=l.length->Vc.forL (l.drop i) i f s k=some z->Wp P kl n B c (zz (fun m o=>∃g,i<l.length/\Vc.forL (l.drop (i+1)) (i+1) f g k=some z/\kM kl m o (a (i+1) g) (b (i+1) g)) Q) (a i s) (b i s)):Wp P kl n B (.loop c) Q E H:=by
 refine Wp.loop (S:=Nat×S) (fun t=>a t.1 t.2) (fun t=>b t.1 t.2) (fun t=>t.1<=l.length/\Vc.forL (l.drop t.1) t.1 f t.2 k=some z) (fun t=>l.length-t.1) (0,j) p ⟨Nat.zero_le _,hm⟩ fun t ⟨q,r⟩=>(d t.1 t.2 q r).mono fun e m o h=>?_;cases e with
 |normal=>obtain⟨g,u,v,w⟩:=h;exact⟨(t.1+1,g),⟨u,v⟩,by simp only;omega,w⟩
 |_=>exact h
theorem Wp.forC{Z S:Type}{z:Z}{f:Nat->S->(S->Option Z)->(S->Option Z)->Option Z}{k:S->Option Z}{m:Nat}{c:Code}{j:S}(a:Nat->S->ey)(b:Nat->S->List Ob)(p:kM kl E H (a 0 j) (b 0 j))(hm:Vc.forC m 0 f j k=some z)
  (d:∀(i:Nat) (s:S),i<=m->Vc.forC (m-i) i f s k=some z->Wp P kl n B c (zz (fun l o=>∃g,i<m/\Vc.forC (m-(i+1)) (i+1) f g k=some z/\kM kl l o (a (i+1) g) (b (i+1) g)) Q) (a i s) (b i s)):Wp P kl n B (.loop c) Q E H:=by
 refine Wp.loop (S:=Nat×S) (fun t=>a t.1 t.2) (fun t=>b t.1 t.2) (fun t=>t.1<=m/\Vc.forC (m-t.1) t.1 f t.2 k=some z) (fun t=>m-t.1) (0,j) p ⟨Nat.zero_le _,hm⟩ fun t ⟨q,r⟩=>(d t.1 t.2 q r).mono fun e l o h=>?_;cases e with
 |normal=>obtain⟨g,u,v,w⟩:=h;exact⟨(t.1+1,g),⟨u,v⟩,by simp only;omega,w⟩
 |_=>exact h
theorem Wp.loopN{Z S:Type}{z:Z}{f:S->(S->Option Z)->(S->Option Z)->Option Z}{k:S->Option Z}{m:Nat}{c:Code}{j:S}(a:S->ey)(b:S->List Ob)(r:kM kl E H (a j) (b j))(hm:Vc.loopN m f j k=some z)
  (d:∀(s:S) (l:S->Option Z),f s l k=some z->Wp P kl n B c (zz (fun o p=>∃g,l g=some z/\kM kl o p (a g) (b g)) Q) (a s) (b s)):Wp P kl n B (.loop c) Q E H:=by
 refine Wp.loop (S:=Nat×S) (fun t=>a t.2) (fun t=>b t.2) (fun t=>Vc.loopN t.1 f t.2 k=some z) (fun t=>t.1) (m,j) r hm fun t q=>?_;obtain⟨i,s⟩:=t;cases i with
 |zero=>cases q
 |succ i =>
  refine(d s (fun g=>Vc.loopN i f g k) q).mono fun e o p h=>?_;cases e with
  |normal=>obtain⟨g,u,v⟩:=h;exact⟨(i,g),u,Nat.lt_succ_self _,v⟩
  |_=>exact h
theorem dm{c:Code}(b:Nat)(T:TypeId)(sz:Nat)(h:eR E b=.nils)(f:Wp P kl n B c Q ((b,.buf H.length)::E) (H++[.buf T sz []])):Wp P kl n B c Q E H:=by
 intro g a w d;have i:a.tmps.getD b undef=.slice none 0 0:=by
  obtain⟨K,G,_,_,j,_⟩:=d;have:=j b;rw[h]at this;simpa only[VR]using this
 obtain⟨K,G,k,l,o,p,q,r,s⟩:=jZ d T sz;refine f g a w ⟨K,G,k,l,fun m=>?_,p,q,r⟩;simp only[eR];split
 .rename_i e;subst e;rw[i];exact s
 .exact o m
theorem dY{c:Code}(b:Nat)(T:TypeId)(sz:Nat)(h:eR E b=.full [])(i:Wp P kl n B c Q ((b,.buf H.length)::E) (H++[.buf T sz []])):Wp P kl n B c Q E H:=by
 intro j a w g;have d:∃f,a.tmps.getD b undef=.slice f 0 0:=by obtain⟨K,G,_,_,k,_⟩:=g;have:=k b;rw[h]at this;simp only[VR]at this;exact this.2
 obtain⟨f,d⟩:=d;obtain⟨K,G,l,o,p,q,r,s,t⟩:=RD g f T sz;refine i j a w ⟨K,G,l,o,fun m=>?_,q,r,s⟩;simp only[eR];split
 .rename_i e;subst e;rw[d];exact t
 .exact p m
theorem dK{c:Code}(o d:Nat)(X:Ob)(F:∀K h G,ObR K h G ⟨none,.slice none 0 0,[]⟩ X){t:TypeId}{s:List Va}(I:eD H o=.cells t s)(h:s[d]?=some .nils)(J:Wp P kl n B c Q E (H.set o (.cells t (s.set d (.buf H.length)))++[X])):Wp P kl n B c Q E H:=by
 intro L a w M;obtain⟨K,G,N,k,O,R,S,T,U⟩:=RE M X F;have l:=zu I (by simp);have f:=(List.getElem?_eq_some_iff.1 l).1;have u:(H++[X])[o]?=some (.cells t s):=by rw[getElem?_append_left f];exact l
 have m:=k.len;refine J L a w ⟨K,G,N,⟨by simpa using m,k.kb,k.gbo,k.ijo,fun i g x A v=>?_,k.tb⟩,O,R,S,fun i hi=>?_⟩
 .by_cases e:i=o
  .subst e;rw[getElem?_append_left (by simpa using f),getElem?_set_self f]at v;cases v;obtain⟨b,cs,V,W,C⟩:=k.ob i g _ A u;refine⟨b,cs,V,W,?_⟩;obtain⟨Y,p,q⟩:=C.get d _ h;simp only[VR]at q;subst q;have:=C.set U d
   rwa [show cs.set d (.slice none 0 0)=cs by
    apply ext_getElem?;intro j;by_cases D:d=j
    .subst D;rw[getElem?_set_self (List.getElem?_eq_some_iff.1 p).1,p]
    .rw[getElem?_set_ne D]]at this
  .refine k.ob i g x A ?_;rw[<-v];simp only[getElem?_append,length_set,getElem?_set_ne (Ne.symm e)]
 .obtain⟨y,r,z⟩:=T i hi;by_cases e:i=o
  .subst e;exact⟨_,by rw[getElem?_append_left (by simpa using f),getElem?_set_self f],rfl⟩
  .refine⟨y,?_,z⟩;rw[<-r];simp only[getElem?_append,length_set,getElem?_set_ne (Ne.symm e)]
theorem dd{c:Code}(o a:Nat)(T:TypeId)(sz:Nat){d:TypeId}{b:List Va}(e:eD H o=.cells d b)(h:b[a]?=some .nils)(f:Wp P kl n B c Q E (H.set o (.cells d (b.set a (.buf H.length)))++[.buf T sz []])):Wp P kl n B c Q E H :=
 dK o a (.buf T sz []) (fun _ _ _=>⟨by simp,[],by simp[DRss],.inl ⟨⟨none,rfl⟩,rfl,rfl⟩⟩) e h f
theorem dX{c:Code}(o a:Nat)(T:TypeId){T0:TypeId}{vs:List Va}(b:eD H o=.cells T0 vs)(h:vs[a]?=some .nils)(d:Wp P kl n B c Q E (H.set o (.cells T0 (vs.set a (.buf H.length)))++[.sb T []])):Wp P kl n B c Q E H :=
 dK o a (.sb T []) (fun _ _ _=>⟨by simp,.inl ⟨rfl,rfl,rfl⟩⟩) b h d
theorem rz:∀{H:List Ob} {o:Nat} {x:Ob},H[o]?=some x->eD H o=x
 |[],_,_,h=>by simp at h
 |y::l,0,x,h=>by simpa [eD]using h
 |y::l,n+1,x,h=>by simp only[eD];exact rz (by simpa using h)
theorem ek{c:Code}(o d:Nat)(u:Va){v:Va}{T0:TypeId}{vs:List Va}(C:eD H o=.cells T0 vs)(h:vs[d]?=some v)(D:gf v u)(F:Wp P kl n B c Q E (H.set o (.cells T0 (vs.set d u)))):Wp P kl n B c Q E H:=by
 intro I a w ⟨K,G,J,f,L,M,N,O⟩;have k:=zu C (by simp);have l:=(List.getElem?_eq_some_iff.1 k).1;refine F I a w ⟨K,G,J,⟨by simpa using f.len,f.kb,f.gbo,f.ijo,fun i g x y q=>?_,f.tb⟩,L,M,N,fun i hi=>?_⟩
 .by_cases e:i=o
  .subst e;rw[getElem?_set_self l]at q;cases q;obtain⟨b,cs,R,S,z⟩:=f.ob i g _ y k;refine⟨b,cs,R,S,?_⟩;obtain⟨T,m,r⟩:=z.get d _ h;have:=z.set (lD D r) d
   rwa [show cs.set d T=cs by
    apply ext_getElem?;intro j;by_cases A:d=j
    .subst A;rw[getElem?_set_self (List.getElem?_eq_some_iff.1 m).1,m]
    .rw[getElem?_set_ne A]]at this
  .rw[getElem?_set_ne (Ne.symm e)]at q;exact f.ob i g x y q
 .obtain⟨s,p,t⟩:=O i hi;by_cases e:i=o
  .subst e;exact⟨_,getElem?_set_self l,rfl⟩
  .exact⟨s,by rw[getElem?_set_ne (Ne.symm e)];exact p,t⟩
theorem dz{c:Code}(o:Nat)(T:TypeId){T0:TypeId}(b:eD H o=.cells T0 [.nil,.nils])(d:Wp P kl n B c Q E (H.set o (.cells T0 [.np o,.buf H.length])++[.sb T []])):Wp P kl n B c Q E H:=by
 refine dX o 1 T b rfl ?_;have a:=(List.getElem?_eq_some_iff.1 (zu b (by simp))).1;refine ek o 0 (.np o) (T0:=T0) (vs:=[.nil,.buf H.length]) (v:=.nil) ?_ rfl trivial ?_
 .refine rz ?_;rw[getElem?_append_left (by simpa using a),getElem?_set_self a];rfl
 .simpa [set_append,a]using d
end
theorem u7(n:Nat):fh n []=True:=eq_true (fun _ h=>by cases h)
theorem sS(n:Nat)(r:List Dt)(b:List (List Dt)):fh n (r::b)=(r.length=n/\fh n b):=by
 apply propext;constructor
 .intro h;exact⟨h r (by simp),fun x a=>h x (by simp[a])⟩
 .rintro⟨c,d⟩ x a;rcases mem_cons.1 a with rfl|a
  .exact c
  .exact d x a
attribute [go_sem] u7 sS xa A7 zr VG Option.some.injEq
end Go.Vc
