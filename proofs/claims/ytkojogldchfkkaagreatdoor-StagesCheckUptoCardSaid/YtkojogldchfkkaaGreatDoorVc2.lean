/- An abstract machine for the model: what it computes on, its operations, the walk of a body, and that all of it is true of the model (part 2). -/
import Derived.Test.YtkojogldchfkkaaGreatDoorVc1
import Derived.Below
import Derived.Carry
import Derived.ChangeArms
import Derived.ChangeSame
import Derived.Deep.LoopGhost
import Derived.JoinedCond
import Derived.Lib.Bytealg
import Derived.LoopN
import Derived.Orders
import Derived.ProofKit
set_option linter.unusedSectionVars false
open List
namespace Go.Vc
variable [Tabs]
section
variable {C:Cx} {E:eC} {H:List Ob} {a:Act} {w:World}
theorem Cm{K:Nat->Prop}{G:List Gh}(hS:St K G H w){c:Value}{x:Va}(hc:VR K w.heap G c x){rows:List (List Dt)}(hx:Gn H x=some rows){u e:TypeId}{esz:Nat}(hok:xM C.P u esz e x rows){i:TypeInfo}(hi:i.size=esz) :
  ∃news d,C.P.underlying u=some d/\((∃k,d=.slice k)∨d=.string)/\qE C.P w i.size c rows.length news/\DRss K w.heap esz news rows:=by
 have sl:∀(hx:Ck H x=some rows) (hok:fC esz rows/\match eN C.P u with|.slice _ _ _ _=>True|_=>False),∃news d,C.P.underlying u=some d/\((∃k,d=.slice k)∨d=.string)/\qE C.P w i.size c rows.length news/\DRss K w.heap esz news rows:=by
  intro hx ⟨hszk,hkk⟩
  have:∃k es eb ez,eN C.P u=.slice k es eb ez:=by
   split at hkk
   .exact⟨_,_,_,_,by assumption⟩
   .exact hkk.elim
  obtain⟨k,es,eb,ez,hk⟩:=this;obtain⟨ti,ht,hk'⟩:=zM hk (by simp);obtain⟨hlim,hh⟩:=Ml hS hc hx
  rcases hh with⟨a,cap,rfl,rfl⟩|⟨b,off,cap,cs,T,fr,sz,vs,rfl,hb,hv,hd⟩
  .exact⟨[],_,(lw ht hk').1,.inl ⟨k,rfl⟩,⟨fun _=>rfl,fun _ _=>by cases a <;> simp[Builtin.firstCells,loadCells,loadCellsFrom],by simp⟩,by simp[DRss]⟩
  .rcases Classical.em (rows=[])with rfl|hne
   .refine⟨[],_,(lw ht hk').1,.inl ⟨k,rfl⟩,⟨fun _=>rfl,fun w' _=>?_,by simp⟩,by simp[DRss]⟩
    simp[Builtin.firstCells,loadCells,loadCellsFrom]
   .have hsz:=hd.sz hszk hne
    subst hsz;have hl:=hd.length;refine⟨vs,_,(lw ht hk').1,.inl ⟨k,rfl⟩,⟨fun _=>rfl,fun w' hw'=>?_,by rw[hl,hi]⟩,hd⟩;refine run_firstCells_some (P:=C.P) w' i.size rows.length _ _ _ vs (by rw[hl,hi]) (fun j v hj=>?_);rw[mK,cell_of_row w' b (off+j) cs T fr (by rw[hw'];exact hb)];exact hv j v hj
 unfold Gn at hx;split at hx
 .rename_i l
  cases hx;simp only[xM]at hok;obtain⟨hk,rfl,hke⟩:=hok;obtain⟨ti,ht,hk'⟩:=zM hk (by simp);simp only[VR,DR]at hc;obtain⟨rfl,hlim⟩:=hc;refine⟨l.map fun b=>Value.int .u8 b.toNat,_,Co ht hk',.inr rfl,⟨fun _=>by simp[Builtin.lenOf,ByteArray.size,bR],fun w' _=>?_,by simp[bR,hi]⟩,DRss.bytes l⟩
  have e:(⟨l.toArray⟩:ByteArray).extract 0 (bR l).length=⟨l.toArray⟩:=by
   apply ByteArray.ext;rw[ByteArray.data_extract];simp[bR]
  simp only[Builtin.firstCells,e,Sem.run_pure];simp
 .rename_i hns
  have hok':fC esz rows/\match eN C.P u with|.slice _ _ _ _=>True|_=>False:=by
   unfold xM at hok;split at hok
   .rename_i l;exact absurd rfl (hns l)
   .exact hok
  exact sl hx hok'
theorem OY{K:Nat->Prop}{h:Array Obj}:∀{rows:List (List Dt)} {vs:List Value},DRss K h 1 vs rows->gc rows->vs=(g9 rows).map mA/\(g9 rows).length=rows.length
 |[],vs,hd,_=>by simp only[DRss]at hd;subst hd;exact⟨rfl,rfl⟩
 |[.i k n]::rs,vs,hd,ha=>by
  simp only[gc]at ha;obtain⟨rfl,ha⟩:=ha;simp only[DRss,DRs,DR]at hd;obtain⟨a,b,rfl,_,⟨v,vs',rfl,⟨rfl,hf⟩,rfl⟩,hd⟩:=hd;obtain⟨h1,h2⟩:=OY hd ha;simp only[Fits,lo,hi]at hf;refine⟨?_,by simp[g9,h2]⟩;simp only[g9,map_cons,cons_append,nil_append,h1,mA]
  congr 2
  rw[UInt8.toNat_ofNat'];omega
 |[]::_,_,_,ha=>by simp[gc]at ha
 |[.b _]::_,_,_,ha=>by simp[gc]at ha
 |[.s _]::_,_,_,ha=>by simp[gc]at ha
 |[.l _]::_,_,_,ha=>by simp[gc]at ha
 |[.a _]::_,_,_,ha=>by simp[gc]at ha
 |(_::_::_)::_,_,_,ha=>by simp[gc]at ha
theorem vC{c:Call}{x:Operand}(h1:c.callee=.builtin .unsafeSliceData)(h2:c.args.toList=[x]){o:Oper}(ho:o.op=.call c){v:Value}{w':World}
  (hr:∀ts,(Builtin.unsafeSliceData_ ts o.type #[a.eval x]).run C.P w=.ok v w'):(execOp a.eval o).run C.P w=.ok (.value v) w':=by
 obtain⟨callee,args,argTypes⟩:=c;obtain⟨dst,op,ty,pos,af,gd⟩:=o;cases ho;simp only at h1 h2 hr;subst h1
 have ha:args=#[x]:=by cases args;simp_all
 subst ha;simp[execOp,resolve,invoke,builtin,hr]
theorem u0{c:Call}{x y:Operand}{t u:TypeId}(h1:c.callee=.builtin .unsafeString)(h2:c.args.toList=[x,y])(h3:c.argTypes.toList=[t,u]){o:Oper}(ho:o.op=.call c){v:Value}{w':World}
  (hr:(Builtin.unsafeString_ #[t,u] o.type #[a.eval x,a.eval y]).run C.P w=.ok v w'):(execOp a.eval o).run C.P w=.ok (.value v) w':=by
 obtain⟨callee,args,argTypes⟩:=c;obtain⟨dst,op,ty,pos,af,gd⟩:=o;cases ho;simp only at h1 h2 h3 hr;subst h1
 have ha:args=#[x,y]:=by cases args;simp_all
 have ht:argTypes=#[t,u]:=by cases argTypes;simp_all
 subst ha;subst ht
 simp[execOp,resolve,invoke,builtin,hr]
theorem IQ(hR:Rel C E H a w)(o:Oper){c:Call}{x:Operand}(h1:c.callee=.builtin .unsafeSliceData)(h2:c.args.toList=[x])(ho:o.op=.call c)(hx:opOk true E x)(hok:(IR H (opnd E x)).ok) :
  jB C o a w (IR H (opnd E x)).v E H:=by
 obtain⟨K,G,hX,hS,hE,hd,hn,hkp⟩:=hR;have hvx:=zD hE rfl x hx;unfold IR at hok|-;split at hok
 rotate_left
 .exact hok.elim
 rename_i oo hox
 split at hok
 rotate_left
 .exact hok.elim
 rename_i T bs hob
 rw[hox]at hvx;simp only[VR]at hvx;obtain⟨g,hg,hax,_⟩:=hvx;obtain⟨hlim,hh⟩:=hS.ob oo g _ hg (zP hob (by simp))
 rcases hh with⟨h1',rfl,_⟩|⟨b,cap,cur,fr,hsv,hgb,hb,hfr,h4,h5,h6,h7,h8⟩
 .refine⟨.pointer none,w,.inl (vC h1 h2 ho fun ts=>?_),K,G,hX,hS,hE,hd,hn,hkp,?_⟩
  .rw[hax,h1'];exact Lib.run_unsafeSliceData_nil w ts _ 0 0
  .simp only[VR];exact⟨g,none,0,0,hg,h1',rfl⟩
 .refine⟨.pointer (some ⟨b,0,none⟩),w,.inl (vC h1 h2 ho fun ts=>?_),K,G,hX,hS,hE,hd,hn,hkp,?_⟩
  .rw[hax,hsv];exact Lib.run_unsafeSliceData_row w ts _ _ _ cap (by omega)
  .simp only[VR];exact⟨g,_,_,_,hg,hsv,rfl⟩
theorem l8{fr:Nat×Nat}{n:Nat}(h:pi fr n):pi (if fr.1 == fr.2 then(0,n)else(min fr.1 0,max fr.2 n)) n:=by
 by_cases e:fr.1=fr.2
 .simp[e,pi]
 .rcases h with h|⟨h1,h2⟩
  .exact absurd h e
  .have:(fr.1 == fr.2)=false:=by simpa using e
   rw[this];simp only[Bool.false_eq_true,if_false,pi];right;omega
theorem Im(hR:Rel C E H a w)(o:Oper){c:Call}{x y:Operand}{t u:TypeId}(h1:c.callee=.builtin .unsafeString)(h2:c.args.toList=[x,y])(h3:c.argTypes.toList=[t,u])(ho:o.op=.call c)(hx:opOk true E x)(hy:opOk true E y)(hok:(Ip C.P H t (opnd E x) (opnd E y)).ok) :
  jB C o a w (Ip C.P H t (opnd E x) (opnd E y)).v E H:=by
 obtain⟨K,G,hX,hS,hE,hd,hn,hkp⟩:=hR;have hvx:=zD hE rfl x hx;have hvy:=zD hE rfl y hy;unfold Ip at hok|-;split at hok
 rotate_left
 .exact hok.elim
 rename_i oo k n hox hoy
 split at hok
 rotate_left
 .exact hok.elim
 rename_i T bs hob
 obtain⟨hsb,rfl,rfl⟩:=hok;rw[hox]at hvx;rw[hoy]at hvy;simp only[VR,DR]at hvx hvy;obtain⟨g,ad,m,cp,hg,hsv0,hax⟩:=hvx;obtain⟨hay,_⟩:=hvy;obtain⟨hlim,hh⟩:=hS.ob oo g _ hg (zP hob (by simp))
 have hpt:C.P.underlying t=some (.pointer T)/\C.P.cellsOf T=1:=by
  unfold NM at hsb;split at hsb
  .rename_i e hu
   simp only[Bool.and_eq_true,decide_eq_true_eq]at hsb;obtain⟨rfl,hc⟩:=hsb;exact⟨hu,hc⟩
  .cases hsb
 have hvs:∀w':World,VR K w'.heap G (.string ⟨bs.toArray⟩) (.p (.s bs)):=fun w'=>by simp only[VR,DR];exact⟨trivial,hlim⟩
 have none':bs=[]->(execOp a.eval o).run C.P w=.ok (.value (.string ⟨bs.toArray⟩)) w:=by
  rintro rfl;refine u0 h1 h2 h3 ho ?_;rw[hax,hay];exact Lib.run_unsafeString_none (P:=C.P) w t u o.type ad
 rcases Classical.em (bs=[])with h0|h0
 .exact⟨_,w,.inl (none' h0),K,G,hX,hS,hE,hd,hn,hkp,hvs w⟩
 rcases hh with⟨_,h,_⟩|⟨b,cap,cur,fr,hsv,hgb,hb,hfr,h4,h5,h6,h7,h8⟩
 .exact absurd h h0
 have hade:ad=some ⟨b,0,none⟩:=by
  rw[hsv0]at hsv;injection hsv
 subst hade
 have hsh:w.shape? b=some (T,cur.size):=by simp[World.shape?,hb]
 have hrun:=Lib.run_unsafeString_row (P:=C.P) w t u o.type T hpt.1 hpt.2 b cur.size hsh bs h0 (by omega) (by unfold eM at hlim;omega) (fun j x hj=>by
  rw[mK,cell_of_row w b (0+j) cur T fr hb,Nat.zero_add,<-Array.getElem?_toList]
  have:(cur.toList.take bs.length)[j]?=some (mA x):=by rw[h8,getElem?_map,hj];rfl
  rw[getElem?_take]at this;split at this
  .exact this
  .cases this)
 have hb':(w.freeze ⟨b,0,none⟩ bs.length).heap[b]?=some (.cells cur T (if fr.1 == fr.2 then(0,bs.length)else(min fr.1 0,max fr.2 bs.length))):=by
  have hl:bs.length≠0:=by simpa using h0
  obtain⟨f1,f2⟩:=fr;simp[World.freeze,hl,Array.getElem?_modify,hb]
 have hfr':∀i,i≠b->(w.freeze ⟨b,0,none⟩ bs.length).heap[i]?=w.heap[i]?:=by
  intro i hi
  have hl:bs.length≠0:=by simpa using h0
  simp[World.freeze,hl,Array.getElem?_modify,Ne.symm hi]
 have hsz:(w.freeze ⟨b,0,none⟩ bs.length).heap.size=w.heap.size:=by
  have hl:bs.length≠0:=by simpa using h0
  simp[World.freeze,hl]
 have hos:(w.freeze ⟨b,0,none⟩ bs.length).os=w.os/\(w.freeze ⟨b,0,none⟩ bs.length).tape=w.tape/\(w.freeze ⟨b,0,none⟩ bs.length).output=w.output:=by
  have hl:bs.length≠0:=by simpa using h0
  simp[World.freeze,hl]
 have hMn:Mn K K w.heap (w.freeze ⟨b,0,none⟩ bs.length).heap:=⟨fun _ h=>h,fun i hi=>hfr' i fun e=>(hS.gb oo g b hg hgb).2 (e ▸ hi)⟩
 have hset:H.set oo (.sb T bs)=H:=by
  have:=zP hob (by simp);obtain⟨hl,he⟩:=List.getElem?_eq_some_iff.1 this;rw[<-he];exact set_getElem_self hl
 have hS':=hS.modA (x:=.sb T bs) hg hgb hsz hfr' ⟨hlim,.inr ⟨b,cap,cur,_,hsv,hgb,hb',l8 hfr,h4,h5,h6,h7,h8⟩⟩;rw[hset]at hS';refine⟨.string ⟨bs.toArray⟩,w.freeze ⟨b,0,none⟩ bs.length,.inl (u0 h1 h2 h3 ho ?_),K,G,hX.trans (Ext.modA C.kp hg hgb hos.1 hos.2.1 hos.2.2 hsz hfr'),hS',fun m=>VR.grow hMn (fun _ _ h=>h) _ _ (hE m),hd,hn,hkp,hvs _⟩;rw[hax,hay];exact hrun
theorem Pb(hR:Rel C E H a w)(ad:Option Addr)(x:Ob)(hx:∀K h G,ObR K h G ⟨none,.slice ad 0 0⟩ x):RelV C E (H++[x]) (.slice ad 0 0) (.buf H.length) a w:=by
 obtain⟨K,G,hX,hS,hE,hd,hnn,hk⟩:=hR
 have old:∀{i:Nat} {g:Gh},(G++[⟨none,.slice ad 0 0⟩])[i]?=some g->(G[i]?=some g)∨(i=G.length/\g=⟨none,.slice ad 0 0⟩):=by
  intro i g hg
  rcases Nat.lt_or_ge i G.length with h|h
  .rw[getElem?_append_left h]at hg;exact .inl hg
  .rw[getElem?_append_right h]at hg
   have:i-G.length=0:=by
    rcases Nat.lt_or_ge (i-G.length) 1 with h'|h'
    .omega
    .rw[getElem?_eq_none (by simpa using h')]at hg;cases hg
   rw[this]at hg;simp at hg;exact .inr ⟨by omega,hg.symm⟩
 have hG:∀(o:Nat) (g:Gh),G[o]?=some g->(G++[⟨none,.slice ad 0 0⟩])[o]?=some g:=fun o g hg=>Mg.push G _ o g rfl hg
 have hM:Mn K K w.heap w.heap:=⟨fun _ h=>h,fun _ _=>rfl⟩;refine⟨K,G++[⟨none,.slice ad 0 0⟩],?_,?_,fun m=>VR.grow hM hG _ _ (hE m),hd,hnn,fun o ho=>?_,?_⟩
 .refine hX.trans { Ext.refl C.kp K G w with glen:=by simp,gold:=fun i g0 g b h0 hg hb=>?_,gnew:=fun i g b hi hg hb=>?_,gsame:=fun i g0 _ h0=>hG i g0 h0 }
  .rw[hG i g0 h0]at hg;cases hg;exact .inl hb
  .rcases old hg with h|⟨_,rfl⟩
   .rw[getElem?_eq_none hi]at h;cases h
   .cases hb
 .refine⟨by simp[hS.len],hS.kb,fun i g b hg hb=>?_,fun i j g g' b hg hg' hb hb'=>?_,fun i g y hg hy=>?_,hS.tb⟩
  .rcases old hg with h|⟨_,rfl⟩
   .exact hS.gb i g b h hb
   .cases hb
  .rcases old hg with h|⟨_,rfl⟩
   .rcases old hg' with h'|⟨_,rfl⟩
    .exact hS.inj i j g g' b h h' hb hb'
    .cases hb'
   .cases hb
  .rcases old hg with h|⟨e,rfl⟩
   .have hl:=(List.getElem?_eq_some_iff.1 h).1
    rw[hS.len]at hl;rw[getElem?_append_left hl]at hy;exact ObR.keep hM (Mg.push G _) (fun _ _=>rfl) (Ob.all_true _) (hS.ob i g y h hy)
   .subst e
    rw[hS.len,getElem?_append_right (Nat.le_refl _)]at hy;simp at hy;subst hy;exact hx _ _ _
 .obtain⟨vs',hvs',hkt⟩:=hk o ho
  exact⟨vs',by rw[getElem?_append_left (List.getElem?_eq_some_iff.1 hvs').1];exact hvs',hkt⟩
 .simp only[VR]
  refine⟨⟨none,.slice ad 0 0⟩,?_,rfl,_,_,_,rfl⟩;rw[<-hS.len,getElem?_append_right (Nat.le_refl _)];simp
theorem Og(hR:Rel C E H a w)(x:Ob)(hx:∀K h G,ObR K h G ⟨none,.slice none 0 0⟩ x):RelV C E (H++[x]) (.slice none 0 0) (.buf H.length) a w:=Pb hR none x hx
theorem Of(hR:Rel C E H a w)(ad:Option Addr)(T:TypeId)(sz:Nat):RelV C E (H++[.buf T sz []]) (.slice ad 0 0) (.buf H.length) a w :=
 Pb hR ad _ fun _ _ _=>⟨by simp,[],by simp[DRss],.inl ⟨⟨ad,rfl⟩,rfl,rfl⟩⟩
theorem ku(hR:Rel C E H a w)(T:TypeId)(sz:Nat):RelV C E (H++[.buf T sz []]) (.slice none 0 0) (.buf H.length) a w :=
 Og hR _ fun _ _ _=>⟨by simp,[],by simp[DRss],.inl ⟨⟨none,rfl⟩,rfl,rfl⟩⟩
theorem G7{c:Call}{x y:Operand}{t u:TypeId}(h1:c.callee=.builtin .append)(h2:c.args.toList=[x,y])(h3:c.argTypes.toList=[t,u]){o:Oper}(ho:o.op=.call c){v:Value}{w':World}
  (hr:(Builtin.append_ #[t,u] o.type #[a.eval x,a.eval y]).run C.P w=.ok v w'):(execOp a.eval o).run C.P w=.ok (.value v) w':=by
 obtain⟨callee,args,argTypes⟩:=c;obtain⟨dst,op,ty,pos,af,gd⟩:=o;cases ho;simp only at h1 h2 h3 hr;subst h1
 have ha:args=#[x,y]:=by cases args;simp_all
 have ht:argTypes=#[t,u]:=by cases argTypes;simp_all
 subst ha;subst ht
 simp[execOp,resolve,invoke,builtin,hr]
theorem xw(hR:Rel C E H a w)(o:Oper){c:Call}{x y:Operand}{t u:TypeId}(h1:c.callee=.builtin .append)(h2:c.args.toList=[x,y])(h3:c.argTypes.toList=[t,u])(ho:o.op=.call c)
  (hx:opOk true E x) (hy:opOk true E y) (hok:(oX C.P C.kp E H t u (opnd E x) (opnd E y)).ok) :
  jB C o a w (oX C.P C.kp E H t u (opnd E x) (opnd E y)).v (oX C.P C.kp E H t u (opnd E x) (opnd E y)).E (oX C.P C.kp E H t u (opnd E x) (opnd E y)).H:=by
 obtain⟨K,G,hX,hS,hE,hd,hn,hkp⟩:=hR;have hvx:=zD hE rfl x hx;have hvy:=zD hE rfl y hy;unfold oX at hok|-;split at hok
 rotate_left
 .exact hok.elim
 rename_i e esz eb ez hk
 obtain⟨ti,ht,hk'⟩:=zM hk (by simp);obtain⟨hu,⟨i,hi1,hi2,hi3⟩,hez⟩:=lw ht hk'
 have hzi:∃zv,i.zero=some zv/\zv.cells.toList=ez:=by
  unfold yi at hez;rw[hi1]at hez;simp at hez;exact hez
 obtain⟨zv,hzv,hzc⟩:=hzi;split at hok
 rotate_left
 .exact hok.elim
 rename_i rows' hsrc
 -- an object that has grown
 have fg:∀(G1:List Gh) (H1:List Ob) (oo:Nat) (g:Gh) (X:Ob),St K G1 H1 w->G1[oo]?=some g->g.sv=a.eval x->C.kp oo=false->Ext C.kp C.K0 C.G0 C.w0 K G1 w->jI K w.heap G1 a E->iA C.kp H1 ->
   (∃sv w' g1,(Builtin.append_ #[t,u] o.type #[g.sv,a.eval y]).run C.P w=.ok sv w'/\g1.sv=sv/\(∃a n c,sv=.slice a n c)/\w'.os=w.os/\w'.tape=w.tape/\w'.output=w.output/\w.heap.size<=w'.heap.size /\
    (∀i,i<w.heap.size->g.blk≠some i->w'.heap[i]?=w.heap[i]?)/\(∀b,g1.blk=some b->b<w'.heap.size/\(g.blk=some b∨w.heap.size<=b))/\ObR K w'.heap (G1.set oo g1) g1 X) ->
   jB C o a w (.buf oo) (jP (· != oo) E) ((ix (· != oo) H1).set oo X):=by
  intro G1 H1 oo g X hS1 hg hsv hkf hX1 hE1 hkp1 hh;obtain⟨sv,w',g1,hrun,hg1,hslice,e1,e2,e3,e4,e5,e6,e7⟩:=hh;refine⟨sv,w',.inl (G7 h1 h2 h3 ho (by rw[<-hsv];exact hrun)),?_⟩;have hM:Mn K K w.heap w'.heap:=⟨fun _ h=>h,fun b hb=>e5 b (hS1.kb b hb) fun e=>(hS1.gb oo g b hg e).2 hb⟩
  have hMg:Mg (· != oo) G1 (G1.set oo g1):=fun j g' hj hg'=>by rw[getElem?_set_ne (by simpa using Ne.symm (by simpa using hj))];exact hg'
  have hol:oo<G1.length:=(List.getElem?_eq_some_iff.1 hg).1;refine⟨K,G1.set oo g1,hX1.trans (Ext.modB hg hkf e1 e2 e3 e4 e5 (fun b hb=>(e6 b hb).2)),?_,fun m=>?_,hd,hn,fun j hj=>?_,?_⟩
  .rw[uU]
   exact hS1.modB hg e4 e5 e6 e7
  .rw[CL]
   exact VR.prune hM hMg _ _ (hE1 m)
  .obtain⟨vs,hvs,hkt⟩:=hkp1 j hj
   have hne:j≠oo:=fun h=>by rw[h,hkf]at hj;cases hj
   refine⟨vs.prune (· != oo),?_,by cases vs <;> first|rfl|cases hkt⟩;rw[getElem?_set_ne (Ne.symm hne),uU,getElem?_map,hvs];rfl
  .simp only[VR]
   exact⟨g1,getElem?_set_self hol,hg1.symm,by rw[hg1];exact hslice⟩
 -- the step on an object at hand
 have step:∀(G1:List Gh) (H1:List Ob) (oo:Nat) (g:Gh) (rows:List (List Dt)),St K G1 H1 w->G1[oo]?=some g->ObR K w.heap G1 g (.buf e esz rows)->g.sv=a.eval x->Gn H1 (opnd E y)=some rows'->VR K w.heap G1 (a.eval y) (opnd E y) ->
   ez.length=esz->eb<=512->(rows++rows').length<=eM->xM C.P u esz e (opnd E y) rows'->C.kp oo=false->Ext C.kp C.K0 C.G0 C.w0 K G1 w->jI K w.heap G1 a E->iA C.kp H1 ->
   jB C o a w (.buf oo) (jP (· != oo) E) ((ix (· != oo) H1).set oo (.buf e esz (rows++rows'))):=by
  intro G1 H1 oo g rows hS1 hg hob hsv hsrc1 hvy1 hel heb hlim hso hkf hX1 hE1 hkp1;obtain⟨news,d,hdu,hdd,hsr,hdr⟩:=Cm (C:=C) hS1 hvy1 hsrc1 hso hi2
  have hby:(rows++rows').length*i.bytes<=140737488355328:=by
   rw[hi3];have:=Nat.mul_le_mul hlim heb;unfold eM at this;omega
  exact fg G1 H1 oo g _ hS1 hg hsv hkf hX1 hE1 hkp1 (EC (P:=C.P) hS1 hg hob (t:=t) (u:=u) (ty:=o.type) hu hdu hdd hi1 hi2 hzv (by rw[<-hel,<-hzc];simp) hsr hdr.ones hdr rfl hlim hby)
 have grow:∀(base:Option Addr) (n cap:Nat) (rows:List (List Dt)) (olds:List Value),a.eval x=.slice base n cap->qE C.P w i.size (.slice base n cap) n olds->rows.length=n->DRss K w.heap esz olds rows->n=cap ->
   ∀(news:List Value) (d:TypeDesc),C.P.underlying u=some d->((∃k,d=.slice k)∨d=.string)->qE C.P w i.size (a.eval y) rows'.length news->DRss K w.heap esz news rows' ->
   ez.length=esz->eb<=512->(rows++rows').length<=eM->0<rows'.length->∀dat:Bool,jB C o a w (match dat with|true=>.p (.l (rows++rows'))|false=>.buf H.length) E (match dat with|true=>H|false=>H++[.buf e esz (rows++rows')]):=by
  intro base n cap rows olds hax hos hrn hod hnc news d hdu hdd hsr hdr hel heb hlim hpos dat;subst hrn;subst hnc
  have hlim':rows.length+rows'.length<=eM:=by simpa using hlim
  have hby:(rows.length+rows'.length)*i.bytes<=140737488355328:=by
   rw[hi3];have:=Nat.mul_le_mul hlim' heb;unfold eM at this;omega
  have hl63:rows.length+rows'.length<=9223372036854775807:=by unfold eM at hlim';omega
  have hrun:=M6 (P:=C.P) w (ty:=o.type) hu hdu hdd hi1 hzv hos hsr (by omega) hl63 (growslice_fits (by omega) hby);have hge:=grownCap_ge w (rows.length+rows'.length) rows.length e;have hcm:=grownCap_le_maxLen w (rows.length+rows'.length) rows.length e (by simp only[maxLen];omega);have hol:=hod.length;have hnl:=hdr.length
  have hzs:zv.cells.size=esz:=by rw[<-hel,<-hzc];simp
  refine⟨_,_,.inl (G7 h1 h2 h3 ho (by rw[hax];exact hrun)),?_⟩;cases dat
  .refine Gx (w1:=w.drew) hX hS hE hd hn hkp (.inr rfl) (xs:=olds++news) (hod.append hdr) (by simp) hlim' (Free.zero _) hge hcm ?_ ?_
   .simp only[Array.size_append,size_toArray,size_zeroCells,hzs,hol,hnl,<-Nat.add_mul]
    congr 1
    omega
   .simp only[Array.toList_append,append_assoc]
    rw[<-append_assoc]
    have:(olds++news).length=(rows.length+rows'.length)*esz:=by rw[length_append,hol,hnl,Nat.add_mul]
    rw[<-this];exact take_left
  .refine vO (w1:=w.drew) hX hS hE hd hn hkp (.inr rfl) (xs:=olds++news) (hod.append hdr) (by simp) hlim' (Free.zero _) hge hcm ?_ ?_
   .simp only[Array.size_append,size_toArray,size_zeroCells,hzs,hol,hnl,<-Nat.add_mul]
    congr 1
    omega
   .simp only[Array.toList_append,append_assoc]
    rw[<-append_assoc]
    have:(olds++news).length=(rows.length+rows'.length)*esz:=by rw[length_append,hol,hnl,Nat.add_mul]
    rw[<-this];exact take_left
 split at hok
 .rename_i oo hox
  split at hok
  rotate_left
  .rename_i T bs hob
   obtain⟨hkf,rfl,rfl,hel,heb,hlim,hall,hso⟩:=hok;rw[hox]at hvx;simp only[VR]at hvx;obtain⟨g,hg,hax,_⟩:=hvx;obtain⟨news,d,hdu,hdd,hsr,hdr⟩:=Cm (C:=C) hS hvy hsrc hso hi2;obtain⟨hnb,hbl⟩:=OY hdr hall;rw[hnb,<-hbl]at hsr
   have hby:(bs++g9 rows').length*i.bytes<=140737488355328:=by
    rw[hi3];have:=Nat.mul_le_mul hlim heb;unfold eM at this;omega
   exact fg G H oo g _ hS hg hax.symm hkf hX hE hkp (tT (P:=C.P) hS hg (hS.ob oo g _ hg (zP hob (by simp))) (t:=t) (u:=u) (ty:=o.type) hu hdu hdd hi1 hi2 hzv (by rw[<-hel,<-hzc];simp) hsr hlim hby)
  .exact hok.elim
  rename_i T sz rows hob
  obtain⟨hkf,rfl,rfl,hel,heb,hlim,hso⟩:=hok;rw[hox]at hvx;simp only[VR]at hvx;obtain⟨g,hg,hax,_⟩:=hvx;exact step G H oo g rows hS hg (hS.ob oo g _ hg (zP hob (by simp))) hax.symm hsrc hvy hel heb hlim hso hkf hX hE hkp
 .rename_i hox
  obtain⟨hkf,hel,heb,hlim,hso⟩:=hok;rw[hox]at hvx;simp only[VR]at hvx;obtain⟨news,d,hdu,hdd,hsr,hdr⟩:=Cm (C:=C) hS hvy hsrc hso hi2
  rcases Nat.eq_zero_or_pos rows'.length with h0|hpos
  .have hr0:rows'=[]:=length_eq_zero_iff.1 h0
   subst hr0;exact⟨_,w,.inl (G7 h1 h2 h3 ho (by rw[hvx];exact Ht (P:=C.P) w hu hdu hdd hi1 hsr none)),ku ⟨K,G,hX,hS,hE,hd,hn,hkp⟩ e esz⟩
  .have hs0:qE C.P w i.size (.slice none 0 0) 0 []:=⟨fun _=>rfl,fun _ _=>by simp[Builtin.firstCells],by simp⟩
   exact grow none 0 0 [] [] hvx hs0 rfl (by simp[DRss]) rfl news d hdu hdd hsr hdr hel heb (by simpa using hlim) hpos false
 .rename_i rows hox
  cases hdb:Es C.P e (opnd E y)with
  |true =>
   simp only[hdb]at hok;obtain⟨hel,heb,hlim,hszk,hpos,hso⟩:=hok;rw[hox]at hvx;obtain⟨news,d,hdu,hdd,hsr,hdr⟩:=Cm (C:=C) hS hvy hsrc hso hi2;obtain⟨olds,d2,_,_,hos,hod⟩:=Cm (C:=C) (u:=t) (e:=e) hS hvx (rows:=rows) rfl ⟨hszk,by rw[hk];trivial⟩ hi2;have hax:=hvx;simp only[VR]at hax;obtain⟨_,base,hax⟩:=hax;rw[hax]at hos
   rcases Nat.eq_zero_or_pos rows'.length with h0|hpos'
   .have hr0:rows'=[]:=length_eq_zero_iff.1 h0
    subst hr0
    cases rows with
    |cons _ _=>simp[ji]at hpos
    |nil=>exact⟨_,w,.inl (G7 h1 h2 h3 ho (by rw[hax];exact Ht (P:=C.P) w hu hdu hdd hi1 hsr base)),⟨K,G,hX,hS,hE,hd,hn,hkp,by simp only[VR,DR];exact .inl ⟨⟨base,rfl⟩,rfl⟩⟩⟩
   .exact grow base rows.length rows.length rows olds hax hos rfl hod rfl news d hdu hdd hsr hdr hel heb hlim hpos' true
  |false =>
   simp only[hdb]at hok;obtain⟨hkf,hel,heb,hlim,hszk,hpos,hso⟩:=hok;rw[hox]at hvx;obtain⟨news,d,hdu,hdd,hsr,hdr⟩:=Cm (C:=C) hS hvy hsrc hso hi2;obtain⟨olds,d2,_,_,hos,hod⟩:=Cm (C:=C) (u:=t) (e:=e) hS hvx (rows:=rows) rfl ⟨hszk,by rw[hk];trivial⟩ hi2;have hax:=hvx;simp only[VR]at hax;obtain⟨_,base,hax⟩:=hax;rw[hax]at hos
   rcases Nat.eq_zero_or_pos rows'.length with h0|hpos'
   .have hr0:rows'=[]:=length_eq_zero_iff.1 h0
    subst hr0
    cases rows with
    |cons _ _=>simp[ji]at hpos
    |nil=>exact⟨_,w,.inl (G7 h1 h2 h3 ho (by rw[hax];exact Ht (P:=C.P) w hu hdu hdd hi1 hsr base)),Of ⟨K,G,hX,hS,hE,hd,hn,hkp⟩ base e esz⟩
   .exact grow base rows.length rows.length rows olds hax hos rfl hod rfl news d hdu hdd hsr hdr hel heb hlim hpos' false
 .exact hok.elim
def wI(C:Cx)(E:eC)(H:List Ob)(o:Oper):Prop :=
 (fH C.P C.kp E H o.op).ok->∀a w,Rel C E H a w->jB C o a w (fH C.P C.kp E H o.op).v (fH C.P C.kp E H o.op).E (fH C.P C.kp E H o.op).H
theorem qA(C:Cx)(E:eC)(H:List Ob)(o:Oper):wI C E H o:=by
 intro hok a w hR
 cases ho:o.op <;> rw[ho]at hok <;> simp only[fH]at hok|- <;> try (exact hok.elim)
 case alloc t=>exact xA hR o ho hok
 case box t x=>exact Ew hR o ho hok
 case buildSlice t n ps=>exact Eu hR o ho hok
 case store t x y=>exact vq hR o ho hok.1 hok.2.1 hok.2.2
 case convert s d x=>exact xh hR o ho hok.1 hok.2
 case makeSlice t l c=>exact Aj hR o ho hok.1 hok.2.1 hok.2.2
 case call c =>
  split at hok
  .rename_i x y t u h1 h2 h3
   exact xw hR o h1 h2 h3 ho hok.1 hok.2.1 hok.2.2
  .rename_i x tl h1 h2
   exact IQ hR o h1 h2 ho hok.1 hok.2
  .rename_i x y t u h1 h2 h3
   exact Im hR o h1 h2 h3 ho hok.1 hok.2.1 hok.2.2
  .rename_i x y t u h1 h2 h3
   exact Em hR o ho h1 h2 h3 hok.1 hok.2.1 hok.2.2
  .exact hok.elim
 case makeMap t r =>
  cases r with
  |none=>exact DT hR o ho hok
  |some _=>exact hok.elim
 case mapUpdate t m k x=>exact vN hR o (.inl ho) hok.1 hok.2.1 hok.2.2.1 hok.2.2.2
 case insert t m k x=>exact vN hR o (.inr ho) hok.1 hok.2.1 hok.2.2.1 hok.2.2.2
end
structure Bs where
 K0:Nat->Prop
 G0:List Gh
 w0:World
def eR:List Bool->Nat->Bool
 |[],_=>false
 |b::_,0=>b
 |_::l,n+1=>eR l n
abbrev cx(P:Program)(kl:List Bool)(n:Nat)(B:Bs):Cx:=⟨P,eR kl,B.K0,B.G0,B.w0,n⟩
abbrev Qt:=Exit->eC->List Ob->Prop
def NS(C:Cx)(Q:Qt):Exit->Act->World->Prop:=fun e a w=>∃E H,Q e E H/\Rel C E H a w
def Wp(P:Program)(kl:List Bool)(n:Nat)(B:Bs)(c:Code)(Q:Qt)(E:eC)(H:List Ob):Prop :=
 B.G0.length=kl.length->∀a w,Rel (cx P kl n B) E H a w->c.wp P (NS (cx P kl n B) Q) a w
def zy(K:eC->List Ob->Prop)(Q:Qt):Qt
 |.normal,E,H=>K E H
 |e,E,H=>Q e E H
def zq(id:Nat)(Q:Qt):Qt
 |.exit i,E,H=>if i=id then Q .normal E H else Q (.exit i) E H
 |e,E,H=>Q e E H
section
variable {P:Program} {kl:List Bool} {n:Nat} {B:Bs} {Q:Qt} {E:eC} {H:List Ob}
theorem Wp.mono{c:Code}{Q':Qt}(h:Wp P kl n B c Q E H)(hq:∀e E H,Q e E H->Q' e E H):Wp P kl n B c Q' E H :=
 fun hB a w hR=>wp_mono (h hB a w hR) fun _ _ _ ⟨E',H',h1,h2⟩=>⟨E',H',hq _ _ _ h1,h2⟩
theorem Wp.skip(h:Q .normal E H):Wp P kl n B .skip Q E H:=fun _ _ _ hR=>wp_skip ⟨E,H,h,hR⟩
theorem Wp.ret(h:Q .ret E H):Wp P kl n B .ret Q E H:=fun _ _ _ hR=>wp_ret ⟨E,H,h,hR⟩
theorem Wp.exit{id:Nat}(h:Q (.exit id) E H):Wp P kl n B (.exit id) Q E H:=fun _ _ _ hR=>wp_exit ⟨E,H,h,hR⟩
theorem Wp.seq{x y:Code}(h:∀K:eC->List Ob->Prop,(∀E H,Wp P kl n B y Q E H->K E H)->Wp P kl n B x (zy K Q) E H):Wp P kl n B (.seq x y) Q E H:=by
 intro hB a w hR;refine wp_seq (wp_mono (h _ (fun _ _ h=>h) hB a w hR) ?_);intro e a' w' ⟨E',H',hq,hR'⟩
 cases e <;> first|exact hq hB a' w' hR'|exact⟨E',H',hq,hR'⟩
theorem Wp.block{id:Nat}{c:Code}(h:Wp P kl n B c (zq id Q) E H):Wp P kl n B (.block id c) Q E H:=by
 intro hB a w hR;refine wp_block (wp_mono (h hB a w hR) ?_);intro e a' w' ⟨E',H',hq,hR'⟩
 cases e with
 |exit i =>
  simp only[Exit.inBlock,zq]at hq|-;split
  .rename_i e;rw[if_pos e]at hq;exact⟨E',H',hq,hR'⟩
  .rename_i e;rw[if_neg e]at hq;exact⟨E',H',hq,hR'⟩
 |_=>exact⟨E',H',hq,hR'⟩
theorem Wp.cond{c:Operand}{x y:Code}{b:Bool}(hc:eY E c=.p (.b b))(hk:ul c)(ht:b=true->Wp P kl n B x Q E H)(hf:b=false->Wp P kl n B y Q E H):Wp P kl n B (.cond c x y) Q E H:=by
 intro hB a w hR;have hR':=hR;obtain⟨K,G,hX,hS,hE,_⟩:=hR;have:=lI hE c hk;rw[hc]at this;simp only[VR,DR]at this;exact wp_cond_split this (fun h=>ht h hB a w hR') (fun h=>hf h hB a w hR')
end
def Rg(P:Program)(kl:List Bool)(n:Nat)(B:Bs)(ops:Array Oper)(l:List Oper)(E:eC)(H:List Ob)(K:eC->List Ob->Prop):Prop :=
 B.G0.length=kl.length->∀a w (Q:Exit->Act->World->Prop),Rel (cx P kl n B) E H a w->(∀E' H' a' w',K E' H'->Rel (cx P kl n B) E' H' a' w'->Q .normal a' w')->wpList P ops Q l a w
def gO(n:Nat):Option Tmp->Prop
 |none=>True
 |some d=>d<n
def jE(ops:List Oper)(E:eC)(j:Nat)(want:Bool):Option Bool:=match ops[j]? with
 |some oj=>match oj.dst with
  |some d=>match fa E d with
   |.p (.b t)=>some (t == want)
   |.cnd c (.p (.b t))=>some (c&&(t == want))
   |_=>none
  |none=>none
 |none=>none
inductive Cl where
 |pure|eff|stop
def AQ(P:Program):Op->Cl
 |.binOp .eql t _ _ _=>match eN P t with
  |.slice _ _ _ _=>.stop
  |_=>.pure
 |.binOp .neq t _ _ _=>match eN P t with
  |.slice _ _ _ _=>.stop
  |_=>.pure
 |.alloc _|.box _ _|.buildSlice _ _ _|.store _ _ _|.makeSlice _ _ _|.makeMap _ _|.mapUpdate _ _ _ _|.insert _ _ _ _=>.eff
 |.move _|.assign _|.pick _ _ _|.build _ _|.load _ _|.nilCheck _|.binOp _ _ _ _ _|.unOp _ _ _|.makeFunc _ _ _|.slice _ _ _ _ _|.fieldAddr _ _ _|.field _ _ _|.indexAddr _ _ _|.index _ _ _|.extract _ _|.lookup _ _ _ _=>.pure
 |.convert _ d _=>match eN P d with
  |.slice _ _ _ _=>.eff
  |_=>.pure
 |.call c=>match c.callee with
  |.builtin .append=>.eff
  |.builtin .delete=>.eff
  |.builtin .unsafeSliceData=>.eff
  |.builtin .unsafeString=>.eff
  |.builtin .len=>.pure
  |.builtin .cap=>.pure
  |.builtin .min=>.pure
  |.builtin .max=>.pure
  |_=>.stop
 |_=>.stop
structure Ac where
 E:eC
 H:List Ob
 ok:Prop
def IL(n:Nat)(dst:Option Tmp)(ac:Ac)(r:Pv):Ac:=⟨eU ac.E dst r.v,ac.H,ac.ok/\gO n dst/\r.ok⟩
def IM(n:Nat)(dst:Option Tmp)(ac:Ac)(g:Bool)(r:Pv):Ac:=⟨eU ac.E dst (.cnd g r.v),ac.H,ac.ok/\gO n dst/\(g=true->r.ok)⟩
def IP(n:Nat)(dst:Option Tmp)(ac:Ac)(r:Ev):Ac:=⟨eU r.E dst r.v,r.H,ac.ok/\gO n dst/\r.ok⟩
def Ez:Ac:=⟨[],[],False⟩
def m0(P:Program)(kl:List Bool)(n:Nat)(ops:List Oper)(o:Oper)(ac:Ac):Ac:=match o.guard with
 |none=>match AQ P o.op with
  |.pure=>IL n o.dst ac (fA P true ac.E ac.H o.op)
  |.eff=>IP n o.dst ac (fH P (eR kl) ac.E ac.H o.op)
  |.stop=>Ez
 |some (j,want)=>match AQ P o.op with
  |.pure=>match jE ops ac.E j want with
   |some g=>IM n o.dst ac g (fA P g ac.E ac.H o.op)
   |none=>Ez
  |_=>Ez
def lY(P:Program)(o:Oper):Bool:=match AQ P o.op with
 |.stop=>true
 |_=>false
inductive Rr where
 |done (ac:Ac)
 |stop (l:List Oper) (ac:Ac)
def fB(P:Program)(kl:List Bool)(n:Nat)(ops:List Oper):List Oper->Ac->Rr
 |[],ac=>.done ac
 |o::l,ac=>if lY P o=true then .stop (o::l) ac else fB P kl n ops l (m0 P kl n ops o ac)
def fO(P:Program)(kl:List Bool)(n:Nat)(B:Bs)(ops:Array Oper)(K:eC->List Ob->Prop):Rr->Prop
 |.done ac=>ac.ok/\K ac.E ac.H
 |.stop l ac=>ac.ok/\Rg P kl n B ops l ac.E ac.H K
section
variable {P:Program} {kl:List Bool} {n:Nat} {B:Bs} {K:eC->List Ob->Prop} {E:eC} {H:List Ob} {ops:Array Oper}
theorem zX{dst:Option Tmp}(h:gO n dst):∀d,dst=some d->d<n:=fun d e=>by subst e;exact h
theorem Rg.nil(h:K E H):Rg P kl n B ops [] E H K:=fun _ a w _ hR hK=>hK E H a w h hR
theorem Rg.eff{o:Oper}{l:List Oper}(hg:o.guard=none)(hd:gO n o.dst)(hok:(fH P (eR kl) E H o.op).ok)(h:Rg P kl n B ops l (eU (fH P (eR kl) E H o.op).E o.dst (fH P (eR kl) E H o.op).v) (fH P (eR kl) E H o.op).H K) :
  Rg P kl n B ops (o::l) E H K:=by
 intro hB a w Q hR hK
 refine wpList_plain hg fun K' hK'=>?_
 obtain⟨c,w',hr,hR'⟩:=qA (cx P kl n B) E H o hok a w hR;unfold Oper.wp
 rcases hr with hr|⟨hr,rfl⟩
 .rw[hr];exact hK' _ _ (h hB _ _ _ (hR'.put o.dst (zX hd)) hK)
 .rw[hr];exact hK' _ _ (h hB _ _ _ (hR'.put o.dst (zX hd)) hK)
theorem Rg.pure{o:Oper}{l:List Oper}(hg:o.guard=none)(hd:gO n o.dst)(hok:(fA P true E H o.op).ok)(h:Rg P kl n B ops l (eU E o.dst (fA P true E H o.op).v) H K) :
  Rg P kl n B ops (o::l) E H K:=by
 intro hB a w Q hR hK
 refine wpList_plain hg fun K' hK'=>?_
 obtain⟨Kk,G,hX,hS,hE,hdf,hn,hkp⟩:=hR;obtain⟨c,hr,hv⟩:=JF (P:=P) hS hE rfl o hok;unfold Oper.wp;rw[hr];have hRV:RelV (cx P kl n B) E H c (fA P true E H o.op).v a w:=⟨Kk,G,hX,hS,hE,hdf,hn,hkp,hv⟩;exact hK' _ _ (h hB _ _ _ (hRV.put o.dst (zX hd)) hK)
theorem su{C:Cx}{a:Act}{w:World}(hR:Rel C E H a w){o:Oper}{j:Nat}{want g:Bool}(hg:o.guard=some (j,want))(hb:jE ops.toList E j want=some g):Region.wanted o (yielded ops a.tmps)=g:=by
 obtain⟨K,G,hX,hS,hE,_⟩:=hR;unfold jE at hb;split at hb
 rotate_left
 .cases hb
 rename_i oj hoj
 split at hb
 rotate_left
 .cases hb
 rename_i d hd
 have hoj':ops[j]?=some oj:=by rw[<-Array.getElem?_toList];exact hoj
 have hy:∀(t:Bool),a.tmps.getD d undef=.bool t->yielded ops a.tmps j=some t:=by
  intro t ht
  have:a.tmps[d]?=some (.bool t):=by
   rw[Array.getD_eq_getD_getElem?]at ht
   cases he:a.tmps[d]? with
   |none=>rw[he]at ht;cases ht
   |some v=>rw[he]at ht;simpa using ht
  simp[yielded,hoj',hd,this]
 have hu:a.tmps.getD d undef=undef->yielded ops a.tmps j=none:=by
  intro ht;rw[Array.getD_eq_getD_getElem?]at ht
  cases he:a.tmps[d]? with
  |none=>simp[yielded,hoj',hd,he]
  |some v=>rw[he]at ht;simp at ht;subst ht;simp[yielded,hoj',hd,he,undef]
 have hv:=hE d;split at hb
 .rename_i t ht
  cases hb;rw[ht]at hv;simp only[VR,DR]at hv;simp only[Region.wanted,hg,hy t hv]
  cases t <;> cases want <;> rfl
 .rename_i c t ht
  cases hb;rw[ht]at hv;simp only[VR,DR]at hv;cases c
  .simp only[Region.wanted,hg,hu (hv.2 rfl),Bool.false_and];rfl
  .simp only[Region.wanted,hg,hy t (hv.1 rfl),Bool.true_and]
   cases t <;> cases want <;> rfl
 .cases hb
theorem dU{o:Oper}{l:List Oper}{j:Nat}{want g:Bool}(hg:o.guard=some (j,want))(hb:jE ops.toList E j want=some g)(hd:gO n o.dst)(hok:g=true->(fA P g E H o.op).ok)(h:Rg P kl n B ops l (eU E o.dst (.cnd g (fA P g E H o.op).v)) H K) :
  Rg P kl n B ops (o::l) E H K:=by
 intro hB a w Q hR hK;have hw:=su hR hg hb
 refine wpList_step fun K' hK'=>?_
 have hR':=hR;obtain⟨Kk,G,hX,hS,hE,hdf,hn,hkp⟩:=hR'
 cases g with
 |true =>
  rw[if_pos hw];obtain⟨c,hr,hv⟩:=JF (P:=P) hS hE rfl o (hok rfl);unfold Oper.wp;rw[hr];have hRV:RelV (cx P kl n B) E H c (.cnd true (fA P true E H o.op).v) a w:=⟨Kk,G,hX,hS,hE,hdf,hn,hkp,by simp only[VR];exact⟨fun _=>hv,fun e=>Bool.noConfusion e⟩⟩;exact hK' _ _ (h hB _ _ _ (hRV.put o.dst (zX hd)) hK)
 |false =>
  rw[if_neg (by rw[hw];simp)];have hRV:RelV (cx P kl n B) E H undef (.cnd false (fA P false E H o.op).v) a w:=⟨Kk,G,hX,hS,hE,hdf,hn,hkp,by simp[VR]⟩;exact hK' _ _ (h hB _ _ _ (hRV.put o.dst (zX hd)) hK)
theorem sS{o:Oper}{ac:Ac}{os:List Oper}(h:(m0 P kl n os o ac).ok):ac.ok:=by
 unfold m0 at h;split at h
 .split at h
  .exact h.1
  .exact h.1
  .exact h.elim
 .split at h
  .split at h
   .exact h.1
   .exact h.elim
  .exact h.elim
theorem y2{o:Oper}{l:List Oper}{ac:Ac}(hok:(m0 P kl n ops.toList o ac).ok)(h:Rg P kl n B ops l (m0 P kl n ops.toList o ac).E (m0 P kl n ops.toList o ac).H K):Rg P kl n B ops (o::l) ac.E ac.H K:=by
 unfold m0 at hok h;split at hok
 .rename_i hg
  simp only[hg]at h;split at hok
  .rename_i hc;simp only[hc]at h;exact Rg.pure hg hok.2.1 hok.2.2 h
  .rename_i hc;simp only[hc]at h;exact Rg.eff hg hok.2.1 hok.2.2 h
  .exact hok.elim
 .rename_i j want hg
  simp only[hg]at h;split at hok
  .rename_i hc
   simp only[hc]at h;split at hok
   .rename_i g hb;simp only[hb]at h;exact dU hg hb hok.2.1 hok.2.2 h
   .exact hok.elim
  .exact hok.elim
theorem OO:∀{l:List Oper} {ac:Ac} {os:List Oper},fO P kl n B ops K (fB P kl n os l ac)->ac.ok
 |[],ac,os,h=>h.1
 |o::l,ac,os,h=>by
  unfold fB at h;split at h
  .exact h.1
  .exact sS (OO h)
theorem dN:∀{l:List Oper} {ac:Ac},fO P kl n B ops K (fB P kl n ops.toList l ac)->Rg P kl n B ops l ac.E ac.H K
 |[],ac,h=>Rg.nil h.2
 |o::l,ac,h=>by
  unfold fB at h;split at h
  .exact h.2
  .exact y2 (OO h) (dN h)
theorem Rg.run{l:List Oper}(h:fO P kl n B ops K (fB P kl n ops.toList l ⟨E,H,True⟩)):Rg P kl n B ops l E H K:=dN h
theorem Wp.region{id:Nat}{l:List Oper}{Q:Qt}(h:∀K:eC->List Ob->Prop,(∀E H,Q .normal E H->K E H)->fO P kl n B l.toArray K (fB P kl n l l ⟨E,H,True⟩)):Wp P kl n B (.region id l.toArray false) Q E H:=by
 intro hB a w hR;refine wp_region_lit ?_;have:=Rg.run (ops:=l.toArray) (l:=l) (h (Q .normal) (fun _ _ h=>h))
 exact this hB a w _ hR fun E' H' a' w' h1 h2=>⟨E',H',h1,h2⟩
end
mutual
def gK:Va->Va->Prop
 |v,.top=>v=v
 |.nils,.p (.l rows)=>rows=[]
 |.nils,.nils=>True
 |.full r,.p (.l rows)=>r=rows
 |.full r,.full rows=>r=rows
 |.p x,.p y=>x=y
 |.rp x,.rp y=>x=y
 |.ptr o a,.ptr o' a'=>o=o'/\a=a'
 |.cs o a,.cs o' a'=>o=o'/\a=a'
 |.el o s i a,.el o' s' i' a'=>o=o'/\s=s'/\i=i'/\a=a'
 |.buf o,.buf o'=>o=o'
 |.mp o,.mp o'=>o=o'
 |.np o,.np o'=>o=o'
 |.sd o,.sd o'=>o=o'
 |.vw o s a n,.vw o' s' a' n'=>o=o'/\s=s'/\a=a'/\n=n'
 |.bufc o c,.bufc o' c'=>o=o'/\c=c'
 |.bufc o _,.buf o'=>o=o'
 |.nil,.np _=>True
 |.ptr o a,.np o'=>o=o'/\a=0
 |.nil,.nil=>True
 |.agg xs,.agg ys=>nR xs ys
 |.tup xs,.tup ys=>nR xs ys
 |.fn f xs,.fn g ys=>f=g/\nR xs ys
 |.raw x,.raw y=>x=y
 |.er x,.er y=>x=y
 |_,_=>False
def nR:List Va->List Va->Prop
 |[],[]=>True
 |x::xs,y::ys=>gK x y/\nR xs ys
 |_,_=>False
end
section
variable {K:Nat->Prop} {h:Array Obj} {G:List Gh}
mutual
theorem lW:∀{c:Value} {v v':Va},gK v v'->VR K h G c v->VR K h G c v'
 |c,v,.top,_,_=>by simp[VR]
 |c,.nils,.p (.l rows),hl,hv=>by simp only[gK]at hl;subst hl;simp only[VR,DR]at *;exact .inl ⟨⟨none,hv⟩,trivial⟩
 |c,.nils,.nils,_,hv=>hv
 |c,.full r,.p (.l rows),hl,hv=>by simp only[gK]at hl;subst hl;simp only[VR]at *;exact hv.1
 |c,.full r,.full rows,hl,hv=>by simp only[gK]at hl;subst hl;exact hv
 |c,.p x,.p y,hl,hv=>by
  have:x=y:=by cases y <;> simpa only[gK]using hl
  subst this;exact hv
 |c,.rp x,.rp y,hl,hv=>by simp only[gK]at hl;subst hl;exact hv
 |c,.ptr o a,.ptr o' a',hl,hv=>by simp only[gK]at hl;obtain⟨rfl,rfl⟩:=hl;exact hv
 |c,.cs o a,.cs o' a',hl,hv=>by simp only[gK]at hl;obtain⟨rfl,rfl⟩:=hl;exact hv
 |c,.el o s i a,.el o' s' i' a',hl,hv=>by simp only[gK]at hl;obtain⟨rfl,rfl,rfl,rfl⟩:=hl;exact hv
 |c,.buf o,.buf o',hl,hv=>by simp only[gK]at hl;subst hl;exact hv
 |c,.mp o,.mp o',hl,hv=>by simp only[gK]at hl;subst hl;exact hv
 |c,.np o,.np o',hl,hv=>by simp only[gK]at hl;subst hl;exact hv
 |c,.sd o,.sd o',hl,hv=>by simp only[gK]at hl;subst hl;exact hv
 |c,.vw o s a n,.vw o' s' a' n',hl,hv=>by simp only[gK]at hl;obtain⟨rfl,rfl,rfl,rfl⟩:=hl;exact hv
 |c,.bufc o a,.bufc o' a',hl,hv=>by simp only[gK]at hl;obtain⟨rfl,rfl⟩:=hl;exact hv
 |c,.bufc o a,.buf o',hl,hv=>by simp only[gK]at hl;subst hl;simp only[VR]at *;obtain⟨g,a,n,cap,h1,h2,h3,_⟩:=hv;exact⟨g,h1,h3,a,n,cap,h2⟩
 |c,.nil,.np o',_,hv=>by simp only[VR]at *;exact .inl hv
 |c,.ptr o a,.np o',hl,hv=>by simp only[gK]at hl;obtain⟨rfl,rfl⟩:=hl;simp only[VR]at *;exact .inr hv
 |c,.nil,.nil,_,hv=>hv
 |c,.agg xs,.agg ys,hl,hv=>by
  simp only[gK,VR]at *;obtain⟨cs,h1,h2⟩:=hv;exact⟨cs,h1,Ga hl h2⟩
 |c,.tup xs,.tup ys,hl,hv=>by
  simp only[gK,VR]at *;obtain⟨cs,h1,h2⟩:=hv;exact⟨cs,h1,Ga hl h2⟩
 |c,.fn f xs,.fn g ys,hl,hv=>by
  simp only[gK,VR]at *;obtain⟨rfl,hl⟩:=hl;obtain⟨cs,h1,h2⟩:=hv;exact⟨cs,h1,Ga hl h2⟩
 |c,.raw x,.raw y,hl,hv=>by simp only[gK]at hl;subst hl;exact hv
 |c,.er x,.er y,hl,hv=>by simp only[gK]at hl;subst hl;exact hv
 |c,v,.cnd b x,hl,_=>by cases v <;> simp[gK]at hl
theorem Ga:∀{cs:List Value} {vs vs':List Va},nR vs vs'->VRs K h G cs vs->VRs K h G cs vs'
 |cs,[],[],_,hv=>hv
 |cs,x::xs,y::ys,hl,hv=>by
  simp only[nR,VRs]at *;obtain⟨c,cs',h1,h2,h3⟩:=hv;exact⟨c,cs',h1,lW hl.1 h2,Ga hl.2 h3⟩
end
end
def I1(E:eC):eC->Prop
 |[]=>True
 |(k,v)::E'=>gK (fa E k) v/\I1 E E'
def tc:Ob->Ob->Prop
 |.cells T vs,.cells T' vs'=>T=T'/\nR vs vs'
 |.buf T sz r,.buf T' sz' r'=>T=T'/\sz=sz'/\r=r'
 |.fx T sz r,.fx T' sz' r'=>T=T'/\sz=sz'/\r=r'
 |.sb T r,.sb T' r'=>T=T'/\r=r'
 |.mp ag es,.mp ag' es'=>ag=ag'/\es=es'
 |.mpb ag es bs cl,.mpb ag' es' bs' cl'=>ag=ag'/\es=es'/\bs=bs'/\cl=cl'
 |.mpb ag es _ _,.mp ag' es'=>ag=ag'/\es=es'
 |.it o cl s,.it o' cl' s'=>o=o'/\cl=cl'/\s=s'
 |.it _ _ _,.gone=>True
 |.sb _ _,.gone=>True
 |.buf _ _ _,.gone=>True
 |.gone,.gone=>True
 |_,_=>False
def yd:List Ob->List Ob->Prop
 |_,[]=>True
 |x::H,y::H'=>tc x y/\yd H H'
 |[],_::_=>False
def xC(f:Nat->Bool):eC->Bool
 |[]=>true
 |(_,v)::E=>v.all f&&xC f E
def iC(f:Nat->Bool):List Ob->Bool
 |[]=>true
 |x::H=>x.all f&&iC f H
def gA(kl:List Bool)(E:eC)(H:List Ob)(E':eC)(H':List Ob):Prop :=
 I1 E E'/\yd H H'/\kl.length<=H'.length/\xC (fun o=>decide (o<H'.length)) E'=true/\iC (fun o=>decide (o<H'.length)) H'=true
theorem nS{x y:Ob}(h:tc x y)(hk:x.kept=true):y.kept=true:=by
 cases x <;> cases y <;> simp_all[tc,Ob.kept]
theorem rq{E:eC}:∀{E':eC},I1 E E'->∀m,fa E' m=.top∨gK (fa E m) (fa E' m)
 |[],_,m=>.inl rfl
 |(k,v)::E',h,m=>by
  simp only[I1]at h;simp only[fa];split
  .rename_i e;subst e;exact .inr h.1
  .exact rq h.2 m
theorem o7{f:Nat->Bool}:∀{E:eC},xC f E=true->∀m,(fa E m).all f=true
 |[],_,m=>rfl
 |(k,v)::E,h,m=>by
  simp only[xC,Bool.and_eq_true]at h;simp only[fa];split
  .exact h.1
  .exact o7 h.2 m
theorem F9:∀{H H':List Ob},yd H H'->∀(o:Nat) (y:Ob),H'[o]?=some y->∃x,H[o]?=some x/\tc x y
 |_,[],_,o,y,h=>by simp at h
 |[],y::H',hl,_,_,_=>by simp[yd]at hl
 |x::H,y::H',hl,o,z,h=>by
  simp only[yd]at hl
  cases o with
  |zero=>simp at h;subst h;exact⟨x,rfl,hl.1⟩
  |succ o=>simpa using F9 hl.2 o z (by simpa using h)
theorem Ly{f:Nat->Bool}:∀{H:List Ob},iC f H=true->∀(o:Nat) (y:Ob),H[o]?=some y->y.all f=true
 |[],_,o,y,h=>by simp at h
 |x::H,ha,o,y,h=>by
  simp only[iC,Bool.and_eq_true]at ha
  cases o with
  |zero=>simp at h;subst h;exact ha.1
  |succ o=>exact Ly ha.2 o y (by simpa using h)
theorem DV{K:Nat->Prop}{h:Array Obj}{G:List Gh}{g:Gh}:∀{x y:Ob},tc x y->ObR K h G g x->ObR K h G g y
 |.cells T vs,.cells _ vs',⟨rfl,hl⟩,⟨b,cs,h1,h2,h3⟩=>⟨b,cs,h1,h2,Ga hl h3⟩
 |.buf T sz r,.buf T' sz' r',hl,hx=>by simp only[tc]at hl;obtain⟨rfl,rfl,rfl⟩:=hl;exact hx
 |.fx T sz r,.fx T' sz' r',hl,hx=>by simp only[tc]at hl;obtain⟨rfl,rfl,rfl⟩:=hl;exact hx
 |.mp _ _,.mp _ _,hl,hx=>by simp only[tc]at hl;obtain⟨rfl,rfl⟩:=hl;exact hx
 |.mpb _ _ _ _,.mpb _ _ _ _,hl,hx=>by simp only[tc]at hl;obtain⟨rfl,rfl,rfl,rfl⟩:=hl;exact hx
 |.mpb _ _ _ _,.mp _ _,hl,hx=>by
  simp only[tc]at hl;obtain⟨rfl,rfl⟩:=hl;obtain⟨h0,b,mes,h1,h2,h3,h4,_⟩:=hx;exact⟨h0,b,mes,_,h1,h2,h3,h4⟩
 |.it _ _ _,.it _ _ _,hl,hx=>by simp only[tc]at hl;obtain⟨rfl,rfl,rfl⟩:=hl;exact hx
 |.it _ _ _,.gone,_,_=>trivial
 |.sb T r,.sb T' r',hl,hx=>by simp only[tc]at hl;obtain⟨rfl,rfl⟩:=hl;exact hx
 |.buf _ _ _,.gone,_,_=>trivial
 |.sb _ _,.gone,_,_=>trivial
 |.gone,.gone,_,hx=>hx
theorem St.cut{K:Nat->Prop}{G:List Gh}{H H':List Ob}{w:World}(hS:St K G H w)(hl:yd H H')(ha:iC (fun o=>decide (o<H'.length)) H'=true):St K (G.take H'.length) H' w:=by
 have hlen:H'.length<=H.length:=by
  rcases Nat.eq_zero_or_pos H'.length with h0|hp
  .omega
  .obtain⟨x,hx,_⟩:=F9 hl (H'.length-1) _ (getElem?_eq_getElem (by omega))
   have:=(List.getElem?_eq_some_iff.1 hx).1;omega
 have sub:∀{o:Nat} {g:Gh},(G.take H'.length)[o]?=some g->G[o]?=some g:=fun {o g} h=>by
  rw[getElem?_take]at h;split at h
  .exact h
  .cases h
 have hMg:Mg (fun o=>decide (o<H'.length)) G (G.take H'.length):=fun o g ho hg=>by rw[getElem?_take,if_pos (by simpa using ho)];exact hg
 refine⟨by rw[length_take,hS.len];omega,hS.kb,fun o g b hg=>hS.gb o g b (sub hg),fun o o' g g' b hg hg'=>hS.inj o o' g g' b (sub hg) (sub hg'),fun o g y hg hy=>?_,hS.tb⟩;obtain⟨x,hx,hle⟩:=F9 hl o y hy;have hob:=DV hle (hS.ob o g x (sub hg) hx);have hall:=Ly ha o y hy;exact ObR.keep ⟨fun _ h=>h,fun _ _=>rfl⟩ hMg (fun _ _=>rfl) hall hob
theorem EJ:∀{kl:List Bool} {o:Nat},eR kl o=true->o<kl.length
 |[],o,h=>by simp[eR]at h
 |b::kl,0,_=>by simp
 |b::kl,o+1,h=>by simp only[eR]at h;simpa using EJ h
section
variable {P:Program} {kl:List Bool} {n:Nat} {B:Bs} {Q:Qt} {E:eC} {H:List Ob} {a:Act} {w:World}
theorem Rel.cut{E':eC}{H':List Ob}(hB:B.G0.length=kl.length)(h:Rel (cx P kl n B) E H a w)(hw:gA kl E H E' H'):Rel (cx P kl n B) E' H' a w:=by
 obtain⟨K,G,hX,hS,hE,hd,hn,hk⟩:=h;obtain⟨h1,h2,h3,h4,h5⟩:=hw
 have hMg:Mg (fun o=>decide (o<H'.length)) G (G.take H'.length):=fun o g ho hg=>by rw[getElem?_take,if_pos (by simpa using ho)];exact hg
 refine⟨K,G.take H'.length,hX.cut (by rw[hB];exact h3),hS.cut h2 h5,fun m=>?_,hd,hn,fun o ho=>?_⟩
 .rcases rq h1 m with e|e
  .rw[e];simp[VR]
  .exact VR.keep ⟨fun _ h=>h,fun _ _=>rfl⟩ hMg _ _ (o7 h4 m) (lW e (hE m))
 .obtain⟨vs,hvs,hkt⟩:=hk o ho
  have:o<H'.length:=Nat.lt_of_lt_of_le (EJ ho) h3;obtain⟨x,hx,hle⟩:=F9 h2 o _ (getElem?_eq_getElem this)
  rw[hvs]at hx;cases hx
  exact⟨_,getElem?_eq_getElem this,nS hle hkt⟩
theorem Wp.weak{c:Code}{E':eC}{H':List Ob}(hw:gA kl E H E' H')(h:Wp P kl n B c Q E' H'):Wp P kl n B c Q E H:=fun hB a w hR=>h hB a w (Rel.cut hB hR hw)
theorem Wp.loop{S:Type}(live:S->eC)(objs:S->List Ob)(inv:S->Prop)(mu:S->Nat){c:Code}(s0:S)(h0:gA kl E H (live s0) (objs s0))(hi:inv s0)
  (round:∀s,inv s->Wp P kl n B c (zy (fun E' H'=>∃s',inv s'/\mu s'<mu s/\gA kl E' H' (live s') (objs s')) Q) (live s) (objs s)):Wp P kl n B (.loop c) Q E H:=by
 intro hB a w hR;refine wp_loop_ghost (fun m a w=>∃s,mu s=m/\inv s/\Rel (cx P kl n B) (live s) (objs s) a w) (mu s0) ⟨s0,rfl,hi,Rel.cut hB hR h0⟩ ?_;intro m a w ⟨s,hm,hs,hR⟩;refine wp_mono (round s hs hB a w hR) ?_;intro e a' w' ⟨E',H',hq,hR'⟩
 cases e with
 |normal =>
  obtain⟨s',hs',hlt,hw⟩:=hq;exact⟨mu s',hm ▸ hlt,s',rfl,hs',Rel.cut hB hR' hw⟩
 |_=>exact⟨E',H',hq,hR'⟩
mutual
def tZ:Dt->Prop
 |.b _=>True
 |.i k n=>Fits k n
 |.s x=>x.length<=eM
 |.l rows=>rows.length<=eM/\EH rows
 |.a ds=>k9 ds
def k9:List Dt->Prop
 |[]=>True
 |d::ds=>tZ d/\k9 ds
def EH:List (List Dt)->Prop
 |[]=>True
 |r::rs=>k9 r/\EH rs
end
mutual
def Va.ok:Va->Prop
 |.p x=>tZ x
 |.full rows=>tZ (.l rows)
 |.rp row=>k9 row
 |.agg vs|.tup vs=>dI vs
 |_=>True
def dI:List Va->Prop
 |[]=>True
 |v::vs=>v.ok/\dI vs
end
def Ob.ok:Ob->Prop
 |.cells _ vs=>dI vs
 |.buf _ _ rows=>rows.length<=eM/\EH rows
 |.fx _ _ rows=>rows.length<=eM/\EH rows
 |.mp _ es=>es.length<=eM
 |.mpb _ es _ _=>es.length<=eM
 |.it _ _ _=>True
 |.sb _ bs=>bs.length<=eM
 |.gone=>True
end
section
variable {K:Nat->Prop} {h:Array Obj} {G:List Gh}
mutual
theorem DR.ok:∀{c:Value} {d:Dt},DR K h c d->tZ d
 |_,.b _,_=>trivial
 |_,.i _ _,H=>by simp only[DR]at H;exact H.2
 |_,.s _,H=>by simp only[DR]at H;exact H.2
 |_,.l rows,H=>by
  simp only[DR]at H;simp only[tZ]
  rcases H with⟨_,rfl⟩|⟨b,off,cap,cs,T,fr,sz,vs,_,_,_,_,hl,_,hd⟩
  .exact⟨by simp,by simp only[EH]⟩
  .exact⟨hl,DRss.ok hd⟩
 |_,.a ds,H=>by simp[DR]at H
theorem DRs.ok:∀{cs:List Value} {ds:List Dt},DRs K h cs ds->k9 ds
 |_,[],_=>trivial
 |_,d::ds,H=>by
  simp only[DRs]at H;obtain⟨v,vs',_,h2,h3⟩:=H;exact⟨DR.ok h2,DRs.ok h3⟩
theorem DRss.ok{sz:Nat}:∀{cs:List Value} {rs:List (List Dt)},DRss K h sz cs rs->EH rs
 |_,[],_=>trivial
 |_,r::rs,H=>by
  simp only[DRss]at H;obtain⟨a,b,_,_,h3,h4⟩:=H;exact⟨DRs.ok h3,DRss.ok h4⟩
end
mutual
theorem VR.ok:∀{c:Value} {v:Va},VR K h G c v->v.ok
 |_,.p x,H=>by simp only[VR]at H;exact DR.ok H
 |_,.full rows,H=>by simp only[VR]at H;exact DR.ok H.1
 |_,.rp row,H=>by simp only[VR]at H;obtain⟨_,_,_,_,_,_,_,_,_,_,hd⟩:=H;exact DRs.ok hd
 |_,.agg vs,H=>by simp only[VR]at H;obtain⟨_,_,hv⟩:=H;exact VRs.ok hv
 |_,.tup vs,H=>by simp only[VR]at H;obtain⟨_,_,hv⟩:=H;exact VRs.ok hv
 |_,.nils,_|_,.ptr _ _,_|_,.cs _ _,_|_,.el _ _ _ _,_|_,.buf _,_|_,.mp _,_|_,.np _,_|_,.sd _,_|_,.vw _ _ _ _,_|_,.bufc _ _,_|_,.fn _ _,_|_,.nil,_|_,.cnd _ _,_|_,.raw _,_|_,.er _,_|_,.top,_=>trivial
theorem VRs.ok:∀{cs:List Value} {vs:List Va},VRs K h G cs vs->dI vs
 |_,[],_=>trivial
 |_,v::vs,H=>by
  simp only[VRs]at H;obtain⟨c,cs',_,h2,h3⟩:=H;exact⟨VR.ok h2,VRs.ok h3⟩
end
end
section
variable {P:Program} {kl:List Bool} {n:Nat} {B:Bs} {Q:Qt} {E:eC} {H:List Ob}
theorem dY{c:Code}(k:Nat)(h:(fa E k).ok->Wp P kl n B c Q E H):Wp P kl n B c Q E H:=by
 intro hB a w hR;have hR':=hR;obtain⟨K,G,_,_,hE,_⟩:=hR';exact h (VR.ok (hE k)) hB a w hR
end
variable [Tabs]
def CF (P:Program) (f:FuncId):Prop:=∃fn,P.funcs[f]?=some fn/\(fn.name == "runtime.NumGoroutine")=false/\fn.body.isNone=false
def kinds:List Ob->List Bool
 |[]=>[]
 |x::X=>x.kept::kinds X
theorem Pm:∀X:List Ob,(kinds X).length=X.length
 |[]=>rfl
 |x::X=>by simp[kinds,Pm X]
theorem kG:∀{X:List Ob} {o:Nat},eR (kinds X) o=true->∃x,X[o]?=some x/\x.kept=true
 |[],o,h=>by simp[kinds,eR]at h
 |x::X,0,h=>⟨x,rfl,by simpa [kinds,eR]using h⟩
 |x::X,o+1,h=>by simp only[kinds,eR]at h;simpa using kG h
theorem E4(X:List Ob):iA (eR (kinds X)) X:=fun _ h=>kG h
def Does(P:Program)(f:FuncId)(args:List Va)(X:List Ob)(Post:Va->List Ob->Prop):Prop :=
 CF P f/\∀K G w vals,St K G X w->VRs K w.heap G vals args ->
  Calls P f vals.toArray w fun e w'=>∃c r X' K' G',e=.returned c/\Post r X'/\Ext (eR (kinds X)) K G w K' G' w'/\St K' G' X' w'/\VR K' w'.heap G' c r/\iA (eR (kinds X)) X'
mutual
def ic(m:Nat)(H:List Ob):Va->Va
 |.buf o=>if o<m then .buf o else match eT H o with
  |.buf _ _ rows=>.p (.l rows)
  |_=>.top
 |.agg vs=>.agg (yl m H vs)
 |.tup vs=>.tup (yl m H vs)
 |.fn f vs=>.fn f (yl m H vs)
 |v=>v
def yl(m:Nat)(H:List Ob):List Va->List Va
 |[]=>[]
 |v::vs=>ic m H v::yl m H vs
end
def DL(m:Nat)(H:List Ob):Ob->Ob
 |.cells T vs=>.cells T (yl m H vs)
 |x=>x
def gJ(m:Nat)(H:List Ob):List Ob->List Ob
 |[]=>[]
 |x::X=>DL m H x::gJ m H X
def qd(P:Program)(E:eC)(H:List Ob):ResultVar->Pv
 |.tmp t=>⟨fa E t,True⟩
 |.cell a T=>match eP P T with
  |some ti=>kD ti H (fa E a)
  |none=>eE
def iZ(P:Program)(E:eC)(H:List Ob):List ResultVar->List Va×Prop
 |[]=>([],True)
 |r::rs=>((qd P E H r).v::(iZ P E H rs).1,(qd P E H r).ok/\(iZ P E H rs).2)
def gU(P:Program)(E:eC)(H:List Ob)(rs:List ResultVar):Pv:=match rs with
 |[r]=>qd P E H r
 |rs=>⟨.tup (iZ P E H rs).1,(iZ P E H rs).2⟩
def jt(P:Program)(rs:List ResultVar)(m:Nat)(kl:List Bool)(Post:Va->List Ob->Prop)(E:eC)(H:List Ob):Prop :=
 (gU P E H rs).ok/\kl.length<=m/\m<=H.length/\(ic m H (gU P E H rs).v).all (fun o=>decide (o<m))=true/\iC (fun o=>decide (o<m)) (gJ m H (H.take m))=true /\
  ∃r X,gK (ic m H (gU P E H rs).v) r/\yd (gJ m H (H.take m)) X/\X.length=m/\r.all (fun o=>decide (o<m))=true/\iC (fun o=>decide (o<m)) X=true/\Post r X
def qc(P:Program)(rs:List ResultVar)(m:Nat)(kl:List Bool)(Post:Va->List Ob->Prop):Qt
 |.normal,E,H=>jt P rs m kl Post E H
 |.ret,E,H=>jt P rs m kl Post E H
 |_,_,_=>False
section
variable {K:Nat->Prop} {G:List Gh} {H:List Ob} {w:World} {P:Program}
def EN(K:Nat->Prop)(G:List Gh)(H:List Ob)(m:Nat)(b:Nat):Prop:=K b∨∃o g,m<=o/\G[o]?=some g/\g.blk=some b/\∃T sz rows,H[o]?=some (.buf T sz rows)
theorem mj(hS:St K G H w){o:Nat}{T:TypeId}{sz:Nat}{rows:List (List Dt)}(ho:H[o]?=some (.buf T sz rows)){g:Gh}(hg:G[o]?=some g){K':Nat->Prop}(hK:∀b,K b->K' b)(hb:∀b,g.blk=some b->K' b):DR K' w.heap g.sv (.l rows):=by
 obtain⟨hlim,xs,hxs,hh⟩:=hS.ob o g _ hg ho;simp only[DR]
 rcases hh with⟨h1,h2,_⟩|⟨b,cap,cur,fr,h1,h2,h3,h4,h5,h6,h7,h8⟩
 .exact .inl ⟨h1,h2⟩
 .refine .inr ⟨b,0,cap,cur,T,fr,sz,xs,h1,hb b h2,h3,h5,hlim,fun j v hj=>?_,DRss.mono ⟨hK,fun _ _=>rfl⟩ _ _ _ hxs⟩
  rw[<-h8,getElem?_take]at hj;split at hj
  .rw[Nat.zero_add,<-Array.getElem?_toList];exact hj
  .cases hj
mutual
theorem rh(hS:St K G H w)(m:Nat):∀{c:Value} {v:Va},VR K w.heap G c v->VR (EN K G H m) w.heap G c (ic m H v)
 |c,.p x,h=>VR.grow (K:=K) ⟨fun _ h=>.inl h,fun _ _=>rfl⟩ (fun _ _ h=>h) c (.p x) h
 |c,.nils,h=>VR.grow (K:=K) ⟨fun _ h=>.inl h,fun _ _=>rfl⟩ (fun _ _ h=>h) c .nils h
 |c,.full rows,h=>VR.grow (K:=K) ⟨fun _ h=>.inl h,fun _ _=>rfl⟩ (fun _ _ h=>h) c (.full rows) h
 |c,.rp row,h=>VR.grow (K:=K) ⟨fun _ h=>.inl h,fun _ _=>rfl⟩ (fun _ _ h=>h) c (.rp row) h
 |c,.ptr o a,h=>VR.grow (K:=K) ⟨fun _ h=>.inl h,fun _ _=>rfl⟩ (fun _ _ h=>h) c (.ptr o a) h
 |c,.cs o a,h=>VR.grow (K:=K) ⟨fun _ h=>.inl h,fun _ _=>rfl⟩ (fun _ _ h=>h) c (.cs o a) h
 |c,.el o s i a,h=>VR.grow (K:=K) ⟨fun _ h=>.inl h,fun _ _=>rfl⟩ (fun _ _ h=>h) c (.el o s i a) h
 |c,.np o,h=>VR.grow (K:=K) ⟨fun _ h=>.inl h,fun _ _=>rfl⟩ (fun _ _ h=>h) c (.np o) h
 |c,.sd o,h=>VR.grow (K:=K) ⟨fun _ h=>.inl h,fun _ _=>rfl⟩ (fun _ _ h=>h) c (.sd o) h
 |c,.vw o s a n,h=>VR.grow (K:=K) ⟨fun _ h=>.inl h,fun _ _=>rfl⟩ (fun _ _ h=>h) c (.vw o s a n) h
 |c,.bufc o s,h=>VR.grow (K:=K) ⟨fun _ h=>.inl h,fun _ _=>rfl⟩ (fun _ _ h=>h) c (.bufc o s) h
 |c,.mp o,h=>VR.grow (K:=K) ⟨fun _ h=>.inl h,fun _ _=>rfl⟩ (fun _ _ h=>h) c (.mp o) h
 |c,.nil,h=>VR.grow (K:=K) ⟨fun _ h=>.inl h,fun _ _=>rfl⟩ (fun _ _ h=>h) c .nil h
 |c,.cnd t v,h=>VR.grow (K:=K) ⟨fun _ h=>.inl h,fun _ _=>rfl⟩ (fun _ _ h=>h) c (.cnd t v) h
 |c,.raw v,h=>VR.grow (K:=K) ⟨fun _ h=>.inl h,fun _ _=>rfl⟩ (fun _ _ h=>h) c (.raw v) h
 |c,.er v,h=>VR.grow (K:=K) ⟨fun _ h=>.inl h,fun _ _=>rfl⟩ (fun _ _ h=>h) c (.er v) h
 |c,.top,h=>VR.grow (K:=K) ⟨fun _ h=>.inl h,fun _ _=>rfl⟩ (fun _ _ h=>h) c .top h
 |c,.buf o,h=>by
  simp only[ic];split
  .exact VR.grow (K:=K) ⟨fun _ h=>.inl h,fun _ _=>rfl⟩ (fun _ _ h=>h) c (.buf o) h
  .rename_i hm
   split
   .rename_i T sz rows hob
    have ho:=zP hob (by simp);simp only[VR]at h;obtain⟨g,hg,rfl,_⟩:=h;simp only[VR];exact mj hS ho hg (fun _ h=>.inl h) (fun b hb=>.inr ⟨o,g,by omega,hg,hb,T,sz,rows,ho⟩)
   .simp[VR]
 |c,.agg vs,h=>by simp only[ic,VR]at *;obtain⟨cs,h1,h2⟩:=h;exact⟨cs,h1,Gw hS m h2⟩
 |c,.tup vs,h=>by simp only[ic,VR]at *;obtain⟨cs,h1,h2⟩:=h;exact⟨cs,h1,Gw hS m h2⟩
 |c,.fn f vs,h=>by simp only[ic,VR]at *;obtain⟨cs,h1,h2⟩:=h;exact⟨cs,h1,Gw hS m h2⟩
theorem Gw(hS:St K G H w)(m:Nat):∀{cs:List Value} {vs:List Va},VRs K w.heap G cs vs->VRs (EN K G H m) w.heap G cs (yl m H vs)
 |cs,[],h=>by simpa only[yl,VRs]using h
 |cs,v::vs,h=>by
  simp only[yl,VRs]at *;obtain⟨c,cs',h1,h2,h3⟩:=h;exact⟨c,cs',h1,rh hS m h2,Gw hS m h3⟩
end
theorem LZ(m:Nat)(H':List Ob):∀{X:List Ob} {o:Nat} {y:Ob},(gJ m H' X)[o]?=some y->∃x,X[o]?=some x/\y=DL m H' x
 |[],o,y,h=>by simp[gJ]at h
 |x::X,0,y,h=>by simp[gJ]at h;exact⟨x,rfl,h.symm⟩
 |x::X,o+1,y,h=>by simp only[gJ,getElem?_cons_succ]at h|-;exact LZ m H' h
theorem OW(m:Nat)(H':List Ob):∀X:List Ob,(gJ m H' X).length=X.length
 |[]=>rfl
 |x::X=>by simp[gJ,OW m H' X]
theorem St.out(hS:St K G H w){m:Nat}(ha:iC (fun o=>decide (o<m)) (gJ m H (H.take m))=true):St (EN K G H m) (G.take m) (gJ m H (H.take m)) w:=by
 have sub:∀{o:Nat} {g:Gh},(G.take m)[o]?=some g->o<m/\G[o]?=some g:=fun {o g} h=>by
  rw[getElem?_take]at h;split at h
  .exact⟨by assumption,h⟩
  .cases h
 have hMg:Mg (fun o=>decide (o<m)) G (G.take m):=fun o g ho hg=>by rw[getElem?_take,if_pos (by simpa using ho)];exact hg
 refine⟨by rw[OW,length_take,length_take,hS.len],fun b hb=>?_,fun o g b hg hb=>?_,fun o o' g g' b hg hg'=>hS.inj o o' g g' b (sub hg).2 (sub hg').2,fun o g y hg hy=>?_,hS.tb.mono ⟨fun _ h=>.inl h,fun _ _=>rfl⟩⟩
 .rcases hb with hb|⟨o,g,_,hg,hb,_⟩
  .exact hS.kb b hb
  .exact(hS.gb o g b hg hb).1
 .refine⟨(hS.gb o g b (sub hg).2 hb).1,fun hk=>?_⟩
  rcases hk with hk|⟨o',g',hm',hg',hb',_⟩
  .exact(hS.gb o g b (sub hg).2 hb).2 hk
  .have:=hS.inj o o' g g' b (sub hg).2 hg' hb hb'
   have:=(sub hg).1;omega
 .obtain⟨x,hx,rfl⟩:=LZ m H hy
  have hx':H[o]?=some x:=by
   rw[getElem?_take]at hx;split at hx
   .exact hx
   .cases hx
  have hob:=hS.ob o g x (sub hg).2 hx';have hall:=Ly ha o _ hy
  cases x with
  |cells T vs =>
   obtain⟨b,cs,h1,h2,h3⟩:=hob;exact⟨b,cs,h1,h2,VRs.keep ⟨fun _ h=>h,fun _ _=>rfl⟩ hMg _ _ hall (Gw hS m h3)⟩
  |buf T sz rows=>exact ObR.keep (K:=K) ⟨fun _ h=>.inl h,fun _ _=>rfl⟩ hMg (fun _ _=>rfl) hall hob
  |fx T sz rows=>exact ObR.keep (K:=K) ⟨fun _ h=>.inl h,fun _ _=>rfl⟩ hMg (fun _ _=>rfl) hall hob
  |sb T bs=>exact ObR.keep (K:=K) ⟨fun _ h=>.inl h,fun _ _=>rfl⟩ hMg (fun _ _=>rfl) hall hob
  |mp ag es=>exact ObR.keep (K:=K) ⟨fun _ h=>.inl h,fun _ _=>rfl⟩ hMg (fun _ _=>rfl) hall hob
  |mpb ag es bs cl=>exact ObR.keep (K:=K) ⟨fun _ h=>.inl h,fun _ _=>rfl⟩ hMg (fun _ _=>rfl) hall hob
  |it o cl seen=>exact ObR.keep (K:=K) ⟨fun _ h=>.inl h,fun _ _=>rfl⟩ hMg (fun _ _=>rfl) hall hob
  |gone=>exact hob
def vG(tmps:Array Value):ResultVar->Sem Value
 |.tmp t=>pure (tmps.getD t undef)
 |.cell a t=>do loadVar t (<-asAddr (tmps.getD a undef))
theorem ra{E:eC}{a:Act}(hS:St K G H w)(hE:jI K w.heap G a E){r:ResultVar}(hok:(qd P E H r).ok) :
  ∃c,(vG a.tmps r).run P w=.ok c w/\VR K w.heap G c (qd P E H r).v:=by
 cases r with
 |tmp t=>exact⟨_,rfl,hE t⟩
 |cell x T =>
  simp only[qd]at hok|-;split at hok
  rotate_left
  .exact hok.elim
  rename_i ti ht
  obtain⟨c,hr,hv⟩:=nO (P:=P) ht hS (hE x) hok;refine⟨c,?_,hv⟩;simp only[vG];generalize a.tmps.getD x undef=d at hr|-
  cases d <;> simp only[Instr.loadAt,Instr.sureAddr,asAddr]at hr|-
  case pointer p =>
   cases p with
   |none=>simp at hr
   |some p=>simpa using hr
  all_goals simp at hr
theorem q0{E:eC}{a:Act}(hS:St K G H w)(hE:jI K w.heap G a E):∀{rs:List ResultVar},(iZ P E H rs).2->∃cs,(rs.mapM (vG a.tmps)).run P w=.ok cs w/\VRs K w.heap G cs (iZ P E H rs).1
 |[],_=>⟨[],by simp,by simp[iZ,VRs]⟩
 |r::rs,hok=>by
  simp only[iZ]at hok|-;obtain⟨c,h1,h2⟩:=ra (P:=P) hS hE hok.1;obtain⟨cs,h3,h4⟩:=q0 hS hE hok.2;refine⟨c::cs,?_,by simp only[VRs];exact⟨c,cs,rfl,h2,h4⟩⟩;rw[mapM_cons];simp only[Sem.run_bind,h1,h3,Result.andThen_ok,Sem.run_pure]
theorem Aa{E:eC}{a:Act}(hS:St K G H w)(hE:jI K w.heap G a E){fn:Func}(hok:(gU P E H fn.results.toList).ok):∃c,(results fn a.tmps).run P w=.ok c w/\VR K w.heap G c (gU P E H fn.results.toList).v:=by
 have key:∀{cs:List Value},(fn.results.toList.mapM (vG a.tmps)).run P w=.ok cs w ->
   (results fn a.tmps).run P w=.ok (if h:cs.length=1 then cs[0]else .tuple cs.toArray) w:=by
  intro cs h
  show(do let vs <-fn.results.mapM (vG a.tmps);pure (if h:vs.size=1 then vs[0]else .tuple vs):Sem Value).run P w=_
  rw[Array.mapM_eq_mapM_toList];simp only[Sem.run_bind,Sem.run_map,h,Result.andThen_ok,Sem.run_pure];simp
 unfold gU at hok|-;split at hok
 .rename_i r hr
  obtain⟨c,h1,h2⟩:=ra (P:=P) hS hE hok;refine⟨c,?_,h2⟩;rw[key (cs:=[c]) (by rw[hr,mapM_cons];simp only[mapM_nil,Sem.run_bind,h1,Result.andThen_ok,Sem.run_pure])];rfl
 .rename_i rs hne
  obtain⟨cs,h1,h2⟩:=q0 (P:=P) hS hE hok;have hl:=h2.length
  have hl1:∀rs,(iZ P E H rs).1.length=rs.length:=by
   intro rs
   induction rs with
   |nil=>rfl
   |cons r rs ih=>simp[iZ,ih]
  have hn1:¬ cs.length=1:=by
   rw[hl,hl1];intro h
   match hrs:fn.results.toList,h with
   |[r],_=>exact hne r hrs
  refine⟨.tuple cs.toArray,?_,by simp only[VR];exact⟨cs,rfl,h2⟩⟩;rw[key h1,dif_neg hn1]
end
def ip:Nat->List Va->eC
 |_,[]=>[]
 |k,v::vs=>(k,v)::ip (k+1) vs
theorem kM{K:Nat->Prop}{h:Array Obj}{G:List Gh}:∀{cs:List Value} {vs:List Va} (k m:Nat),VRs K h G cs vs->VR K h G (if k<=m then cs.getD (m-k) undef else undef) (fa (ip k vs) m)
 |cs,[],k,m,_=>by simp[ip,fa,VR]
 |cs,v::vs,k,m,H=>by
  simp only[VRs]at H;obtain⟨c,cs',rfl,h2,h3⟩:=H;simp only[ip,fa]
  by_cases e:k=m
  .subst e
   simpa using h2
  .rw[if_neg e]
   have ih:=kM (k+1) m h3
   by_cases hk:k<=m
   .rw[if_pos (by omega)]at ih
    rw[if_pos hk,show m-k=(m-(k+1))+1 by omega]
    simpa using ih
   .rw[if_neg (by omega)]at ih
    rw[if_neg hk];exact ih
theorem Ext.out{kp:Nat->Bool}{K0 K:Nat->Prop}{G0 G:List Gh}{w0 w:World}{H:List Ob}(h:Ext kp K0 G0 w0 K G w){m:Nat}(hm:G0.length<=m):Ext kp K0 G0 w0 (EN K G H m) (G.take m) w :=
 { h.cut hm with
  k:=fun b hb=>.inl (h.k b hb)
  knew:=fun b hb=>by
   rcases hb with hb|⟨o,g,ho,hg,hb,_⟩
   .exact h.knew b hb
   .exact .inr (h.gnew o g b (by omega) hg hb) }
theorem dV {P:Program} {f:FuncId} {fn:Func} {code:Code} {args:List Va} {X:List Ob} {Post:Va->List Ob->Prop} (m n:Nat) (rs:List ResultVar) (hf:P.funcs[f]?=some fn) (hb:fn.body=some code) (hnm:(fn.name == "runtime.NumGoroutine")=false) (hn:fn.ntmps=n) (hrs:fn.results.toList=rs) (hl:args.length<=n)
  (h:∀B,Wp P (kinds X) n B code (qc P rs m (kinds X) Post) (ip 0 args) X):Does P f args X Post:=by
 subst hn;subst hrs;refine⟨⟨fn,hf,hnm,by rw[hb];rfl⟩,fun K G w vals hS hV=>?_⟩;have hvl:=hV.length;refine calls_of_wp hf hb ?_
 have hB:G.length=(kinds X).length:=by rw[Pm,hS.len]
 have hR:Rel (cx P (kinds X) fn.ntmps ⟨K,G,w⟩) (ip 0 args) X { tmps:=vals.toArray++Array.replicate (fn.ntmps-vals.toArray.size) undef,defers:=[] } w:=by
  refine⟨K,G,Ext.refl _ _ _ _,hS,fun j=>?_,rfl,by simp;omega,E4 X⟩;have:=kM (K:=K) (h:=w.heap) (G:=G) 0 j hV;simp only[Nat.zero_le,if_true,Nat.sub_zero]at this
  have e:(vals.toArray++Array.replicate (fn.ntmps-vals.toArray.size) undef).getD j undef=vals.getD j undef:=by
   rw[Array.getD_eq_getD_getElem?,getD_eq_getElem?_getD,Array.getElem?_append];split
   .simp
   .rename_i hj
    rw[getElem?_eq_none (by simpa using hj),Array.getElem?_replicate]
    split <;> rfl
  rw[e];exact this
 refine wp_mono (h ⟨K,G,w⟩ hB _ _ hR) ?_;intro e a w' ⟨E,H,hq,hR'⟩
 have fg:jt P fn.results.toList m (kinds X) Post E H->a.defers=[]/\∃v,(results fn a.tmps).run P w'=.ok v w'/\∃c r X' K' G',Ending.returned v=.returned c/\Post r X'/\Ext (eR (kinds X)) K G w K' G' w'/\St K' G' X' w'/\VR K' w'.heap G' c r/\iA (eR (kinds X)) X':=by
  intro hq;obtain⟨h1,h2,h3,h4,h5,r,X',h6,h7,h8,h9,h10,h11⟩:=hq;obtain⟨K1,G1,hX,hS1,hE,hd,_,hk⟩:=hR';obtain⟨c,hc,hv⟩:=Aa (P:=P) hS1 hE h1
  have hmk:G.length<=m:=by rw[hB];exact h2
  have hMg:Mg (fun o=>decide (o<m)) G1 (G1.take m):=fun o g ho hg=>by rw[getElem?_take,if_pos (by simpa using ho)];exact hg
  have hv2:VR (EN K1 G1 H m) w'.heap (G1.take m) c (ic m H (gU P E H fn.results.toList).v):=VR.keep ⟨fun _ h=>h,fun _ _=>rfl⟩ hMg _ _ h4 (rh hS1 m hv);have hS2:=hS1.out h5;have hS3:=hS2.cut h7 (by rw[h8];exact h10);rw[h8,take_take,Nat.min_self]at hS3;refine⟨hd,c,hc,c,r,X',EN K1 G1 H m,G1.take m,rfl,h11,hX.out hmk,hS3,lW h6 hv2,fun o ho=>?_⟩;obtain⟨vs,hvs,hkt⟩:=hk o ho;have hom:o<m:=Nat.lt_of_lt_of_le (EJ ho) h2;obtain⟨x,hx,hle⟩:=F9 h7 o _ (getElem?_eq_getElem (by rw[h8];exact hom));obtain⟨x0,hx0,rfl⟩:=LZ m H hx;rw[getElem?_take,if_pos hom,hvs]at hx0;cases hx0;exact⟨_,getElem?_eq_getElem (by rw[h8];exact hom),nS hle (by cases vs <;> first|rfl|cases hkt)⟩
 cases e with
 |normal=>exact fg hq
 |ret=>exact fg hq
 |exit id=>exact hq.elim
 |goto l=>exact hq.elim
 |panic ch=>exact hq.elim
 |outgrown=>exact hq.elim
mutual
def iH:Va->Option Va
 |.p x=>some (.p x)
 |.nils=>some (.p (.l []))
 |.full rows=>some (.p (.l rows))
 |.rp row=>some (.rp row)
 |.nil=>some .nil
 |.raw v=>some (.raw v)
 |.er v=>some (.er v)
 |.top=>some .top
 |.fn f vs=>match uJ vs with
  |some us=>some (.fn f us)
  |none=>none
 |.agg vs=>match uJ vs with
  |some us=>some (.agg us)
  |none=>none
 |.tup vs=>match uJ vs with
  |some us=>some (.tup us)
  |none=>none
 |_=>none
def uJ:List Va->Option (List Va)
 |[]=>some []
 |v::vs=>match iH v,uJ vs with
  |some u,some us=>some (u::us)
  |_,_=>none
end
mutual
def iG(H:List Ob):Va->Option Va
 |.p x=>some (.p x)
 |.nils=>some (.p (.l []))
 |.full rows=>some (.p (.l rows))
 |.rp row=>some (.rp row)
 |.nil=>some .nil
 |.raw v=>some (.raw v)
 |.er v=>some (.er v)
 |.top=>some .top
 |.buf o=>match eT H o with
  |.buf _ _ rows=>some (.p (.l rows))
  |_=>none
 |.ptr o off=>match eT H o with
  |.cells _ vs=>match gr vs with
   |some ds=>some (.rp (ds.drop off))
   |none=>none
  |_=>none
 |.fn f vs=>match jO H vs with
  |some us=>some (.fn f us)
  |none=>none
 |.agg vs=>match jO H vs with
  |some us=>some (.agg us)
  |none=>none
 |.tup vs=>match jO H vs with
  |some us=>some (.tup us)
  |none=>none
 |_=>none
def jO(H:List Ob):List Va->Option (List Va)
 |[]=>some []
 |v::vs=>match iG H v,jO H vs with
  |some u,some us=>some (u::us)
  |_,_=>none
end
mutual
def Va.flat:Va->Bool
 |.p (.b _)|.p (.i _ _)|.p (.s _)|.nil|.raw _|.er _|.top|.nils=>true
 |.agg vs|.tup vs=>dy vs
 |_=>false
def dy:List Va->Bool
 |[]=>true
 |v::vs=>v.flat&&dy vs
end
section
variable {K:Nat->Prop} {h:Array Obj} {G:List Gh}
mutual
theorem vT:∀{c:Value} {v u:Va},iH v=some u->VR K h G c v->VR K h [] c u
 |c,.p x,u,hp,hv=>by simp only[iH]at hp;cases hp;simpa only[VR]using hv
 |c,.nils,u,hp,hv=>by simp only[iH]at hp;cases hp;simp only[VR,DR]at *;exact .inl ⟨⟨none,hv⟩,trivial⟩
 |c,.full rows,u,hp,hv=>by simp only[iH]at hp;cases hp;simp only[VR]at *;exact hv.1
 |c,.rp row,u,hp,hv=>by simp only[iH]at hp;cases hp;simpa only[VR]using hv
 |c,.nil,u,hp,hv=>by simp only[iH]at hp;cases hp;simpa only[VR]using hv
 |c,.raw v,u,hp,hv=>by simp only[iH]at hp;cases hp;simpa only[VR]using hv
 |c,.er v,u,hp,hv=>by simp only[iH]at hp;cases hp;simpa only[VR]using hv
 |c,.top,u,hp,hv=>by simp only[iH]at hp;cases hp;simp[VR]
 |c,.fn f vs,u,hp,hv=>by
  simp only[iH]at hp;split at hp
  .rename_i us hu;cases hp;simp only[VR]at *;obtain⟨cs,h1,h2⟩:=hv;exact⟨cs,h1,GP hu h2⟩
  .cases hp
 |c,.agg vs,u,hp,hv=>by
  simp only[iH]at hp;split at hp
  .rename_i us hu;cases hp;simp only[VR]at *;obtain⟨cs,h1,h2⟩:=hv;exact⟨cs,h1,GP hu h2⟩
  .cases hp
 |c,.tup vs,u,hp,hv=>by
  simp only[iH]at hp;split at hp
  .rename_i us hu;cases hp;simp only[VR]at *;obtain⟨cs,h1,h2⟩:=hv;exact⟨cs,h1,GP hu h2⟩
  .cases hp
 |c,.ptr _ _,u,hp,_=>by simp[iH]at hp
 |c,.cs _ _,u,hp,_=>by simp[iH]at hp
 |c,.el _ _ _ _,u,hp,_=>by simp[iH]at hp
 |c,.buf _,u,hp,_=>by simp[iH]at hp
 |c,.mp _,u,hp,_=>by simp[iH]at hp
 |c,.np _,u,hp,_=>by simp[iH]at hp
 |c,.sd _,u,hp,_=>by simp[iH]at hp
 |c,.vw _ _ _ _,u,hp,_=>by simp[iH]at hp
 |c,.bufc _ _,u,hp,_=>by simp[iH]at hp
 |c,.cnd _ _,u,hp,_=>by simp[iH]at hp
theorem GP:∀{cs:List Value} {vs us:List Va},uJ vs=some us->VRs K h G cs vs->VRs K h [] cs us
 |cs,[],us,hp,hv=>by simp only[uJ]at hp;cases hp;simpa only[VRs]using hv
 |cs,v::vs,us,hp,hv=>by
  simp only[uJ]at hp;split at hp
  .rename_i u us' h1 h2
   cases hp;simp only[VRs]at *;obtain⟨c,cs',e1,e2,e3⟩:=hv;exact⟨c,cs',e1,vT h1 e2,GP h2 e3⟩
  .cases hp
end
mutual
theorem Gj{K':Nat->Prop}{h':Array Obj}{G':List Gh}:∀{c:Value} {v:Va},v.flat=true->VR K h G c v->VR K' h' G' c v
 |c,.p (.b x),_,hv=>by simpa only[VR,DR]using hv
 |c,.p (.i k n),_,hv=>by simpa only[VR,DR]using hv
 |c,.p (.s x),_,hv=>by simpa only[VR,DR]using hv
 |c,.nil,_,hv=>by simpa only[VR]using hv
 |c,.nils,_,hv=>by simpa only[VR]using hv
 |c,.raw v,_,hv=>by simpa only[VR]using hv
 |c,.er v,_,hv=>by simpa only[VR]using hv
 |c,.top,_,_=>by simp[VR]
 |c,.agg vs,hf,hv=>by simp only[VR,Va.flat]at *;obtain⟨cs,h1,h2⟩:=hv;exact⟨cs,h1,L4 hf h2⟩
 |c,.tup vs,hf,hv=>by simp only[VR,Va.flat]at *;obtain⟨cs,h1,h2⟩:=hv;exact⟨cs,h1,L4 hf h2⟩
theorem L4{K':Nat->Prop}{h':Array Obj}{G':List Gh}:∀{cs:List Value} {vs:List Va},dy vs=true->VRs K h G cs vs->VRs K' h' G' cs vs
 |cs,[],_,hv=>by simpa only[VRs]using hv
 |cs,v::vs,hf,hv=>by
  simp only[VRs,dy,Bool.and_eq_true]at *;obtain⟨c,cs',e1,e2,e3⟩:=hv;exact⟨c,cs',e1,Gj hf.1 e2,L4 hf.2 e3⟩
end
end
def yh(K:Nat->Prop)(G:List Gh)(b:Nat):Prop:=K b∨∃(o:Nat) (g:Gh),G[o]?=some g/\g.blk=some b
section
variable {K:Nat->Prop} {w:World} {G:List Gh} {H:List Ob}
mutual
theorem wg(hS:St K G H w):∀{c:Value} {v u:Va},iG H v=some u->VR K w.heap G c v->VR (yh K G) w.heap [] c u
 |c,.p x,u,hp,hv=>by simp only[iG]at hp;cases hp;exact VR.keep (K:=K) (f:=fun _=>false) ⟨fun _ h=>.inl h,fun _ _=>rfl⟩ (fun _ _ h=>Bool.noConfusion h) c (.p x) rfl hv
 |c,.nils,u,hp,hv=>by simp only[iG]at hp;cases hp;simp only[VR,DR]at *;exact .inl ⟨⟨none,hv⟩,trivial⟩
 |c,.full rows,u,hp,hv=>by simp only[iG]at hp;cases hp;simp only[VR]at *;exact DR.mono ⟨fun _ h=>.inl h,fun _ _=>rfl⟩ _ _ hv.1
 |c,.rp row,u,hp,hv=>by simp only[iG]at hp;cases hp;exact VR.keep (K:=K) (f:=fun _=>false) ⟨fun _ h=>.inl h,fun _ _=>rfl⟩ (fun _ _ h=>Bool.noConfusion h) c (.rp row) rfl hv
 |c,.nil,u,hp,hv=>by simp only[iG]at hp;cases hp;simpa only[VR]using hv
 |c,.raw v,u,hp,hv=>by simp only[iG]at hp;cases hp;simpa only[VR]using hv
 |c,.er v,u,hp,hv=>by simp only[iG]at hp;cases hp;simpa only[VR]using hv
 |c,.top,u,hp,hv=>by simp only[iG]at hp;cases hp;simp[VR]
 |c,.buf o,u,hp,hv=>by
  simp only[iG]at hp;split at hp
  .rename_i T sz rows hob
   cases hp;simp only[VR]at hv;obtain⟨g,hg,rfl,_⟩:=hv;simp only[VR];exact mj hS (zP hob (by simp)) hg (fun _ h=>.inl h) (fun b hb=>.inr ⟨o,g,hg,hb⟩)
  .cases hp
 |c,.ptr o off,u,hp,hv=>by
  simp only[iG]at hp;split at hp
  .rename_i vs hob
   split at hp
   .rename_i ds hds
    cases hp;simp only[VR]at hv;obtain⟨g,b,hg,hgb,rfl⟩:=hv;obtain⟨b',cs,hb',hb,hvs⟩:=hS.ob o g _ hg (zP hob (by simp))
    obtain rfl:b'=b:=by rw[hgb]at hb';exact(Option.some.inj hb').symm
    have hd:=xN hvs hds;have hd':DRs (yh K G) w.heap cs ds:=DRs.mono ⟨fun _ h=>.inl h,fun _ _=>rfl⟩ _ _ hd;have:=lG (K:=yh K G) (G:=[]) (off:=0) (.inr ⟨o,g,hg,hgb⟩) hb (fun j v hj=>by rw[Nat.zero_add];simpa using hj) hd' off
    simpa using this
   .cases hp
  .cases hp
 |c,.cs _ _,u,hp,_=>by simp[iG]at hp
 |c,.fn f vs,u,hp,hv=>by
  simp only[iG]at hp;split at hp
  .rename_i us hu;cases hp;simp only[VR]at *;obtain⟨cs,h1,h2⟩:=hv;exact⟨cs,h1,yK hS hu h2⟩
  .cases hp
 |c,.agg vs,u,hp,hv=>by
  simp only[iG]at hp;split at hp
  .rename_i us hu;cases hp;simp only[VR]at *;obtain⟨cs,h1,h2⟩:=hv;exact⟨cs,h1,yK hS hu h2⟩
  .cases hp
 |c,.tup vs,u,hp,hv=>by
  simp only[iG]at hp;split at hp
  .rename_i us hu;cases hp;simp only[VR]at *;obtain⟨cs,h1,h2⟩:=hv;exact⟨cs,h1,yK hS hu h2⟩
  .cases hp
 |c,.el _ _ _ _,u,hp,_=>by simp[iG]at hp
 |c,.mp _,u,hp,_=>by simp[iG]at hp
 |c,.np _,u,hp,_=>by simp[iG]at hp
 |c,.sd _,u,hp,_=>by simp[iG]at hp
 |c,.vw _ _ _ _,u,hp,_=>by simp[iG]at hp
 |c,.bufc _ _,u,hp,_=>by simp[iG]at hp
 |c,.cnd _ _,u,hp,_=>by simp[iG]at hp
theorem yK(hS:St K G H w):∀{cs:List Value} {vs us:List Va},jO H vs=some us->VRs K w.heap G cs vs->VRs (yh K G) w.heap [] cs us
 |cs,[],us,hp,hv=>by simp only[jO]at hp;cases hp;simpa only[VRs]using hv
 |cs,v::vs,us,hp,hv=>by
  simp only[jO]at hp;split at hp
  .rename_i u us' h1 h2
   cases hp;simp only[VRs]at *;obtain⟨c,cs',e1,e2,e3⟩:=hv;exact⟨c,cs',e1,wg hS h1 e2,yK hS h2 e3⟩
  .cases hp
end
theorem St.nil(hb:∀b,K b->b<w.heap.size)(ht:TabOk K w.heap):St K [] [] w :=
 ⟨rfl,hb,fun o g b h=>by simp at h,fun o o' g g' b h=>by simp at h,fun o g x h=>by simp at h,ht⟩
theorem JZ(hS:St K G H w):∀b,yh K G b->b<w.heap.size:=fun b hb=>by
 rcases hb with h|⟨o,g,h1,h2⟩
 .exact hS.kb b h
 .exact(hS.gb o g b h1 h2).1
theorem St.after{K0 K':Nat->Prop}{G':List Gh}{w':World}{kp:Nat->Bool}(hS:St K G H w)(hX:Ext kp K0 [] w K' G' w'):St K G H w':=by
 have fr:∀b,b<w.heap.size->w'.heap[b]?=w.heap[b]?:=fun b hb=>hX.frame b hb (fun o g0 h=>by simp at h)
 exact⟨hS.len,fun b hb=>Nat.lt_of_lt_of_le (hS.kb b hb) hX.size,fun o g b h1 h2=>⟨Nat.lt_of_lt_of_le (hS.gb o g b h1 h2).1 hX.size,(hS.gb o g b h1 h2).2⟩,hS.inj,
  fun o g x h1 h2=>ObR.keep ⟨fun _ h=>h,fun b hb=>fr b (hS.kb b hb)⟩ (Mg.refl (fun _=>true) G) (fun b hb=>fr b (hS.gb o g b h1 hb).1) (Ob.all_true _) (hS.ob o g x h1 h2),hS.tb.mono ⟨fun _ h=>h,fun b hb=>fr b (hS.kb b hb)⟩⟩
end
section
variable {P:Program} {kl:List Bool} {n:Nat} {B:Bs} {K:eC->List Ob->Prop} {E:eC} {H:List Ob} {ops:Array Oper}
theorem E9{o:Oper}{c:Call}{fop:Operand}{f:FuncId}{cs:List Value}{a:Act}{w:World}(ho:o.op=.call c)(hc:c.callee=.value fop)(hf:a.eval fop=.func (.func f) #[] cs.toArray)(hcal:CF P f) :
  (execOp a.eval o).run P w=.ok (.enter f ((c.args.toList.map a.eval)++cs).toArray) w:=by
 obtain⟨callee,args,argTypes⟩:=c;obtain⟨dst,op,ty,pos,af,gd⟩:=o;cases ho;simp only at hc;subst hc;obtain⟨fn,h1,h2,h3⟩:=hcal
 have e:args.map a.eval=(args.toList.map a.eval).toArray:=by cases args;simp
 simp only[execOp,resolve,hf,Deferred.ofValue,Sem.run_bind,Sem.run_pure,Result.andThen_ok,invoke,callFunc,run_program,h1,h2,h3,Bool.false_eq_true,if_false];simp
theorem Rg.call{o:Oper}{l:List Oper}{c:Call}{fop:Operand}{f:FuncId}{caps args:List Va}{Post:Va->List Ob->Prop}(hs:Does P f args [] Post)(ho:o.op=.call c)(hg:o.guard=none)(hc:c.callee=.value fop)(hd:gO n o.dst)
  (hok:opOk true E fop/\allOk true E c.args.toList) (hf:opnd E fop=.fn f caps) (hp:uJ (opnds E c.args.toList++caps)=some args)
  (cont:∀r X',Post r X'->r.ok->X'=[]/\Rg P kl n B ops l (eU E o.dst r) H K):Rg P kl n B ops (o::l) E H K:=by
 intro hB a w Q hR hK
 refine wpList_plain hg fun K' hK'=>?_
 obtain⟨Kk,G,hX,hS,hE,hdf,hn,hkp⟩:=hR;have hvf:=zD hE rfl fop hok.1;rw[hf]at hvf;simp only[VR]at hvf;obtain⟨cs,hcs,hcv⟩:=hvf;have hargs:=xT hE rfl c.args.toList hok.2;have hall:=GP hp (hargs.append hcv);unfold Oper.wp;rw[E9 ho hc hcs hs.1];simp only[Oper.upon];refine(hs.2 Kk [] w _ (St.nil hS.kb hS.tb) hall).mono ?_;rintro e w' ⟨c',r,X',K1,G1,rfl,hpost,hX1,hS1,hv,_⟩;obtain⟨rfl,hrg⟩:=cont r X' hpost hv.ok
 have hG1:G1=[]:=by have:=hS1.len;simpa using this
 subst hG1
 -- K1 and the caller's own objects
 have hkk:∀b,K1 b->Kk b∨w.heap.size<=b:=hX1.knew
 have fr:∀b,b<w.heap.size->w'.heap[b]?=w.heap[b]?:=fun b hb=>hX1.frame b hb (fun o g0 h=>by simp at h)
 have hS':=hS.after hX1
 have hS2:St K1 G H w':=⟨hS'.len,hS1.kb,fun o g b h1 h2=>⟨(hS'.gb o g b h1 h2).1,fun hk=>by
   rcases hkk b hk with h|h
   .exact(hS'.gb o g b h1 h2).2 h
   .have:=(hS.gb o g b h1 h2).1;omega⟩,hS'.inj,
  fun o g x h1 h2=>ObR.keep ⟨hX1.k,fun _ _=>rfl⟩ (Mg.refl (fun _=>true) G) (fun _ _=>rfl) (Ob.all_true _) (hS'.ob o g x h1 h2),hS1.tb⟩
 have hX2:Ext (eR kl) B.K0 B.G0 B.w0 K1 G w':=by
  refine hX.trans { Ext.refl (eR kl) Kk G w with
   os:=hX1.os,tape:=hX1.tape,output:=hX1.output,size:=hX1.size,k:=hX1.k,knew:=hX1.knew,frame:=fun b hb _=>fr b hb }
 have hRV:RelV (cx P kl n B) E H c' r a w':=⟨K1,G,hX2,hS2,fun m=>VR.keep (f:=fun _=>true) ⟨hX1.k,fun b hb=>fr b (hS.kb b hb)⟩ (Mg.refl _ G) _ _ (Va.all_true _) (hE m),hdf,hn,hkp,VR.grow ⟨fun _ h=>h,fun _ _=>rfl⟩ (fun o g h=>by simp at h) _ _ hv⟩;exact hK' _ _ (hrg hB _ _ _ (hRV.put o.dst (zX hd)) hK)
theorem en{o:Oper}{l:List Oper}{c:Call}{fop:Operand}{f:FuncId}{caps args:List Va}{Post:Va->List Ob->Prop}(hs:Does P f args [] Post)(ho:o.op=.call c)(hg:o.guard=none)(hc:c.callee=.value fop)(hd:gO n o.dst)
  (hok:opOk true E fop/\allOk true E c.args.toList) (hf:opnd E fop=.fn f caps) (hp:jO H (opnds E c.args.toList++caps)=some args)
  (cont:∀r X',Post r X'->r.ok->r.flat=true/\Rg P kl n B ops l (eU E o.dst r) H K):Rg P kl n B ops (o::l) E H K:=by
 intro hB a w Q hR hK
 refine wpList_plain hg fun K' hK'=>?_
 obtain⟨Kk,G,hX,hS,hE,hdf,hn,hkp⟩:=hR;have hvf:=zD hE rfl fop hok.1;rw[hf]at hvf;simp only[VR]at hvf;obtain⟨cs,hcs,hcv⟩:=hvf;have hargs:=xT hE rfl c.args.toList hok.2;have hall:=yK hS hp (hargs.append hcv);unfold Oper.wp;rw[E9 ho hc hcs hs.1];simp only[Oper.upon];refine(hs.2 (yh Kk G) [] w _ (St.nil (JZ hS) (hS.tb.mono ⟨fun _ h=>.inl h,fun _ _=>rfl⟩)) hall).mono ?_;rintro e w' ⟨c',r,X',K1,G1,rfl,hpost,hX1,hS1,hv,_⟩;obtain⟨hflat,hrg⟩:=cont r X' hpost hv.ok
 have fr:∀b,b<w.heap.size->w'.heap[b]?=w.heap[b]?:=fun b hb=>hX1.frame b hb (fun o g0 h=>by simp at h)
 have hX2:Ext (eR kl) B.K0 B.G0 B.w0 Kk G w':=by
  refine hX.trans { Ext.refl (eR kl) Kk G w with
   os:=hX1.os,tape:=hX1.tape,output:=hX1.output,size:=hX1.size,frame:=fun b hb _=>fr b hb }
 have hRV:RelV (cx P kl n B) E H c' r a w':=⟨Kk,G,hX2,hS.after hX1,fun m=>VR.keep (f:=fun _=>true) ⟨fun _ h=>h,fun b hb=>fr b (hS.kb b hb)⟩ (Mg.refl _ G) _ _ (Va.all_true _) (hE m),hdf,hn,hkp,Gj hflat hv⟩;exact hK' _ _ (hrg hB _ _ _ (hRV.put o.dst (zX hd)) hK)
theorem Rg.callG{o:Oper}{l:List Oper}{c:Call}{fop:Operand}{f:FuncId}{caps args:List Va}{j:Nat}{want g:Bool}(r:Va)(hs:g=true->Does P f args [] fun r' X=>r'=r/\X=[])(ho:o.op=.call c)(hg:o.guard=some (j,want))(hb:jE ops.toList E j want=some g)(hc:c.callee=.value fop)(hd:gO n o.dst)
  (hok:opOk g E fop/\allOk g E c.args.toList) (hf:opnd E fop=.fn f caps) (hp:jO H (opnds E c.args.toList++caps)=some args) (hflat:r.flat=true)
  (cont:(g=true->r.ok)->Rg P kl n B ops l (eU E o.dst (.cnd g r)) H K):Rg P kl n B ops (o::l) E H K:=by
 intro hB a w Q hR hK;have hw:=su hR hg hb
 refine wpList_step fun K' hK'=>?_
 have hR':=hR;obtain⟨Kk,G,hX,hS,hE,hdf,hn,hkp⟩:=hR'
 cases g with
 |true =>
  rw[if_pos hw];have hs:=hs rfl;have hvf:=zD hE rfl fop hok.1;rw[hf]at hvf;simp only[VR]at hvf;obtain⟨cs,hcs,hcv⟩:=hvf;have hargs:=xT hE rfl c.args.toList hok.2;have hall:=yK hS hp (hargs.append hcv);unfold Oper.wp;rw[E9 ho hc hcs hs.1];simp only[Oper.upon];refine(hs.2 (yh Kk G) [] w _ (St.nil (JZ hS) (hS.tb.mono ⟨fun _ h=>.inl h,fun _ _=>rfl⟩)) hall).mono ?_;rintro e w' ⟨c',r',X',K1,G1,rfl,⟨rfl,rfl⟩,hX1,hS1,hv,_⟩
  have hrg:=cont fun _=>hv.ok
  have fr:∀b,b<w.heap.size->w'.heap[b]?=w.heap[b]?:=fun b hb=>hX1.frame b hb (fun o g0 h=>by simp at h)
  have hX2:Ext (eR kl) B.K0 B.G0 B.w0 Kk G w':=by
   refine hX.trans { Ext.refl (eR kl) Kk G w with
    os:=hX1.os,tape:=hX1.tape,output:=hX1.output,size:=hX1.size,frame:=fun b hb _=>fr b hb }
  have hRV:RelV (cx P kl n B) E H c' (.cnd true r') a w':=⟨Kk,G,hX2,hS.after hX1,fun m=>VR.keep (f:=fun _=>true) ⟨fun _ h=>h,fun b hb=>fr b (hS.kb b hb)⟩ (Mg.refl _ G) _ _ (Va.all_true _) (hE m),hdf,hn,hkp,by simp only[VR];exact⟨fun _=>Gj hflat hv,fun e=>Bool.noConfusion e⟩⟩;exact hK' _ _ (hrg hB _ _ _ (hRV.put o.dst (zX hd)) hK)
 |false =>
  rw[if_neg (by rw[hw];simp)];have hRV:RelV (cx P kl n B) E H undef (.cnd false r) a w:=⟨Kk,G,hX,hS,hE,hdf,hn,hkp,by simp[VR]⟩;exact hK' _ _ (cont (fun e=>Bool.noConfusion e) hB _ _ _ (hRV.put o.dst (zX hd)) hK)
end
def Is{α:Type}(x y:α):Prop:=x=y
theorem Is.mk{α:Type}{x:α}:Is x x:=rfl
def Be(E:eC)(o:Oper):Option (FuncId×List Va):=match o.op,o.guard with
 |.call c,none=>match c.callee with
  |.value fop=>match opnd E fop with
   |.fn f caps=>some (f,opnds E c.args.toList++caps)
   |_=>none
  |_=>none
 |_,_=>none
def tK(E:eC)(o:Oper):Option (FuncId×List Va×Nat×Bool):=match o.op,o.guard with
 |.call c,some (j,want)=>match c.callee with
  |.value fop=>match opnd E fop with
   |.fn f caps=>some (f,opnds E c.args.toList++caps,j,want)
   |_=>none
  |_=>none
 |_,_=>none
def iT(n:Nat)(g:Bool)(E:eC)(o:Oper):Prop:=match o.op with
 |.call c=>match c.callee with
  |.value fop=>gO n o.dst/\opOk g E fop/\allOk g E c.args.toList
  |_=>False
 |_=>False
theorem PD{E:eC}{o:Oper}{f:FuncId}{av:List Va}(h:Be E o=some (f,av)):∃c fop caps,o.op=.call c/\o.guard=none/\c.callee=.value fop/\opnd E fop=.fn f caps/\av=opnds E c.args.toList++caps:=by
 unfold Be at h;split at h
 rotate_left
 .cases h
 rename_i c h1 h2
 split at h
 rotate_left
 .cases h
 rename_i fop h3
 split at h
 rotate_left
 .cases h
 rename_i f' caps h4
 cases h;exact⟨c,fop,caps,h1,h2,h3,h4,rfl⟩
theorem ux{n:Nat}{E:eC}{o:Oper}{g:Bool}(h:iT n g E o){c:Call}{fop:Operand}(h1:o.op=.call c)(h2:c.callee=.value fop):gO n o.dst/\opOk g E fop/\allOk g E c.args.toList:=by
 simpa only[iT,h1,h2]using h
section
variable {P:Program} {kl:List Bool} {n:Nat} {B:Bs} {K:eC->List Ob->Prop} {E:eC} {H:List Ob} {ops:Array Oper} {Q:Qt}
theorem dh{id:Nat}{l:List Oper}{y:Code}(h:∀K:eC->List Ob->Prop,(∀E H,Wp P kl n B y Q E H->K E H)->fO P kl n B l.toArray K (fB P kl n l l ⟨E,H,True⟩)):Wp P kl n B (.seq (.region id l.toArray false) y) Q E H :=
 Wp.seq fun _ hK=>Wp.region fun K' hK'=>h K' fun E' H' hy=>hK' E' H' (hK E' H' hy)
theorem Rg.callF{o:Oper}{l:List Oper}{f:FuncId}{av args:List Va}{v:Va}(hs:Does P f args [] fun r X=>r=v/\X=[])(ha:Is (Be E o) (some (f,av)))(hp:Is (uJ av) (some args))(hok:iT n true E o)
  (cont:v.ok->fO P kl n B ops K (fB P kl n ops.toList l ⟨eU E o.dst v,H,True⟩)):Rg P kl n B ops (o::l) E H K:=by
 obtain⟨c,fop,caps,h1,h2,h3,h4,rfl⟩:=PD ha;obtain⟨hd,hk⟩:=ux hok h1 h3
 exact Rg.call hs h1 h2 h3 hd hk h4 hp fun r X' ⟨hr,hX⟩ hv=>⟨hX,hr ▸ Rg.run (cont (hr ▸ hv))⟩
end
theorem Ae(a b:Bool):(bif a then true else b)=(a||b):=by cases a <;> rfl
theorem vR(a b:Bool):(bif a then b else false)=(a&&b):=by cases a <;> rfl
theorem NT{α:Type}(a b:List α):(List.append a b).length=a.length+b.length:=length_append
theorem Jt{b:Builtin}{args:Array Operand}{ts:Array TypeId}:(Call.operands ⟨.builtin b,args,ts⟩).toList=args.toList:=by simp[Call.operands]
theorem Js{f:Operand}{args:Array Operand}{ts:Array TypeId}:(Call.operands ⟨.value f,args,ts⟩).toList=f::args.toList:=by simp[Call.operands]
theorem Jv(a:Bool):(a == true)=a:=by cases a <;> rfl
theorem Jw(a:Bool):(a == false)=!a:=by cases a <;> rfl
theorem NQ(a:Bool):((!a)=true)=(a=false):=by cases a <;> simp
theorem IY(n:Nat):eT [] n=.gone:=rfl
attribute [go_sem high] rb rc
attribute [go_sem low] Af
attribute [go_sem] fB lY AQ m0 IL IP IM fO fA opnd opOk eY ul w8 cv mW EM fa eU ip gO jE also xp jr xq vS oOk allOk partsOk partsV opnds fH nH jS oC JB nN ib jM lg DZ th ji iN Jk Et A5 xt xB lz mQ NR oP oO iq Ad IV sY qu vX Es B6 A7 A6 Bc il im oX Gn xM Ck nd kD GL He jl jf GJ xP mg Iq oG oF IR Ip vb rQ wh jo IZ DQ qz hQ eT r8 v7 Cd B4 lj setR pp lH jk zeW E1 uo gr jP ix Va.prune dk Va.all dp Ob.prune eR kinds Ob.kept fQ j0 gL gM Va.isCell Cj Be tK iT iH uJ iG jO Va.flat dy zJ go zy zq I1 yd tc gK nR xC iC Ob.all gA qc jt gU iZ qd ic yl DL gJ Va.ok dI Ob.ok tZ k9 NT Jt Js Ae vR Jv Jw NQ Option.map_none Option.map_some Bool.false_eq_true if_false if_true true_and and_true Nat.zero_add Nat.add_zero imp_self forall_const implies_true getElem?_cons_zero getElem?_cons_succ ite_true ite_false cond_true cond_false map_cons map_nil length_cons length_nil take_succ_cons take_zero take_nil drop_succ_cons drop_zero drop_nil cons_append nil_append set_cons_zero set_cons_succ
  getD_cons_zero getD_cons_succ decide_true decide_false Bool.and_true Bool.true_and Bool.not_true Bool.not_false Nat.lt_irrefl not_false_eq_true ne_eq append_nil Bool.and_self
def Agree(xs:List Operand)(E E':eC):Prop:=∀x∈xs,eY E x=eY E' x
section
variable {P:Program} {g:Bool} {E E':eC} {H:List Ob}
theorem Agree.opnd{x:Operand}(h:eY E x=eY E' x):Vc.opnd E x=Vc.opnd E' x:=by unfold Vc.opnd;rw[h]
theorem Agree.opOk{x:Operand}(h:eY E x=eY E' x):Vc.opOk g E x=Vc.opOk g E' x:=by unfold Vc.opOk;rw[h]
theorem Agree.opnds:∀{xs:List Operand},Agree xs E E'->Vc.opnds E xs=Vc.opnds E' xs
 |[],_=>rfl
 |x::xs,h=>by simp only[Vc.opnds];rw[Agree.opnd (h x (by simp)),Agree.opnds fun y hy=>h y (by simp[hy])]
theorem Agree.allOk:∀{xs:List Operand},Agree xs E E'->Vc.allOk g E xs=Vc.allOk g E' xs
 |[],_=>rfl
 |x::xs,h=>by simp only[Vc.allOk];rw[Agree.opOk (h x (by simp)),Agree.allOk fun y hy=>h y (by simp[hy])]
theorem Agree.partsV:∀{xs:List (Nat×Operand)},(∀x∈xs,eY E x.2=eY E' x.2)->Vc.partsV E xs=Vc.partsV E' xs
 |[],_=>rfl
 |x::xs,h=>by simp only[Vc.partsV];rw[Agree.opnd (h x (by simp)),Agree.partsV fun y hy=>h y (by simp[hy])]
theorem Agree.partsOk:∀{xs:List (Nat×Operand)},(∀x∈xs,eY E x.2=eY E' x.2)->Vc.partsOk g E xs=Vc.partsOk g E' xs
 |[],_=>rfl
 |x::xs,h=>by simp only[Vc.partsOk];rw[Agree.opOk (h x (by simp)),Agree.partsOk fun y hy=>h y (by simp[hy])]
theorem Agree.oOk{x:Option Operand}(h:∀y,x=some y->eY E y=eY E' y):Vc.oOk g E x=Vc.oOk g E' x:=by
 cases x with
 |none=>rfl
 |some y=>exact Agree.opOk (h y rfl)
theorem Agree.mapO{x:Option Operand}(h:∀y,x=some y->eY E y=eY E' y):x.map (Vc.opnd E)=x.map (Vc.opnd E'):=by
 cases x with
 |none=>rfl
 |some y=>exact congrArg some (Agree.opnd (h y rfl))
theorem Pa(op:Op)(h:Agree op.operands.toList E E'):fA P g E H op=fA P g E' H op:=by
 unfold Agree at h
 cases op with
 |move x=>have h:=h x (by simp[Op.operands]);simp only[fA,Agree.opnd h,Agree.opOk h]
 |assign x=>have h:=h x (by simp[Op.operands]);simp only[fA,Agree.opnd h,Agree.opOk h]
 |pick c a b =>
  have h1:=h c (by simp[Op.operands]);have h2:=h a (by simp[Op.operands]);have h3:=h b (by simp[Op.operands])
  simp only[fA,Agree.opnd h1,Agree.opOk h1,h2,h3]
 |build t ps =>
  have hp:∀x∈ps.toList,eY E x.2=eY E' x.2:=fun x hx=>h x.2 (by simp only[Op.operands,mem_map];exact⟨x,hx,rfl⟩)
  simp only[fA,Agree.partsV hp,Agree.partsOk hp]
 |load t x=>have h:=h x (by simp[Op.operands]);simp only[fA,Agree.opnd h,Agree.opOk h]
 |nilCheck x=>have h:=h x (by simp[Op.operands]);simp only[fA,Agree.opnd h,Agree.opOk h]
 |binOp op t x y u =>
  have h1:=h x (by simp[Op.operands]);have h2:=h y (by simp[Op.operands])
  simp only[fA,Agree.opnd h1,Agree.opOk h1,Agree.opnd h2,Agree.opOk h2]
 |unOp op t x=>have h:=h x (by simp[Op.operands]);simp only[fA,Agree.opnd h,Agree.opOk h]
 |convert s d x=>have h:=h x (by simp[Op.operands]);simp only[fA,Agree.opnd h,Agree.opOk h]
 |makeFunc fn first caps =>
  have hc:Agree caps.toList E E':=fun x hx=>h x (by simp only[Op.operands,Array.toList_append,mem_append];exact .inr hx)
  simp only[fA,Agree.opnds hc,Agree.allOk hc]
 |slice t x l hi m =>
  have h1:=h x (by simp[Op.operands])
  have h2:∀y,l=some y->eY E y=eY E' y:=fun y e=>h y (by simp[Op.operands,e])
  have h3:∀y,hi=some y->eY E y=eY E' y:=fun y e=>h y (by simp[Op.operands,e])
  have h4:∀y,m=some y->eY E y=eY E' y:=fun y e=>h y (by simp[Op.operands,e])
  simp only[fA,Agree.opnd h1,Agree.opOk h1,Agree.oOk h2,Agree.oOk h3,Agree.oOk h4,Agree.mapO h2,Agree.mapO h3,Agree.mapO h4]
 |fieldAddr t x f=>have h:=h x (by simp[Op.operands]);simp only[fA,Agree.opnd h,Agree.opOk h]
 |field t x f=>have h:=h x (by simp[Op.operands]);simp only[fA,Agree.opnd h,Agree.opOk h]
 |indexAddr t x y =>
  have h1:=h x (by simp[Op.operands]);have h2:=h y (by simp[Op.operands])
  simp only[fA,Agree.opnd h1,Agree.opOk h1,Agree.opnd h2,Agree.opOk h2]
 |index t x y =>
  have h1:=h x (by simp[Op.operands]);have h2:=h y (by simp[Op.operands])
  simp only[fA,Agree.opnd h1,Agree.opOk h1,Agree.opnd h2,Agree.opOk h2]
 |extract x i=>have h:=h x (by simp[Op.operands]);simp only[fA,Agree.opnd h,Agree.opOk h]
 |lookup t x y cok =>
  have h1:=h x (by simp[Op.operands]);have h2:=h y (by simp[Op.operands])
  simp only[fA,Agree.opnd h1,Agree.opOk h1,Agree.opnd h2,Agree.opOk h2]
 |call c =>
  have ha:∀x∈c.args.toList,eY E x=eY E' x:=fun x hx=>h x (by simp only[Op.operands,Call.operands,Array.toList_append,mem_append];exact .inr hx)
  simp only[fA];split
  .rename_i x t _ _ h2 _
   have h:=ha x (by rw[h2];simp);simp only[Agree.opnd h,Agree.opOk h]
  .rename_i x t _ _ h2 _
   have h:=ha x (by rw[h2];simp);simp only[Agree.opnd h,Agree.opOk h]
  .rename_i x y _ h2
   have h1:=ha x (by rw[h2];simp);have h2:=ha y (by rw[h2];simp)
   simp only[Agree.opnd h1,Agree.opOk h1,Agree.opnd h2,Agree.opOk h2]
  .rename_i x y z _ h2
   have h1:=ha x (by rw[h2];simp);have h3:=ha z (by rw[h2];simp);have h2:=ha y (by rw[h2];simp)
   simp only[Agree.opnd h1,Agree.opOk h1,Agree.opnd h2,Agree.opOk h2,Agree.opnd h3,Agree.opOk h3]
  .rename_i x y _ h2
   have h1:=ha x (by rw[h2];simp);have h2:=ha y (by rw[h2];simp)
   simp only[Agree.opnd h1,Agree.opOk h1,Agree.opnd h2,Agree.opOk h2]
  .rfl
 |_=>rfl
def jy(E:eC):Op->Option (Nat->Bool)
 |.call c=>match c.callee,c.args.toList with
  |.builtin .append,[x,_]=>match Vc.opnd E x with
   |.buf o=>some (· != o)
   |_=>none
  |_,_=>none
 |_=>none
def lN:Option (Nat->Bool)->Va->Va
 |none,v=>v
 |some f,v=>v.prune f
def Alike(po:Option (Nat->Bool))(E':eC)(r r':Ev):Prop:=r'.v=r.v/\r'.H=r.H/\r'.ok=r.ok/\(r.ok->∀m,fa r'.E m=lN po (fa E' m))
theorem qL{po:Option (Nat->Bool)}:Alike po E' gB gB:=⟨rfl,rfl,rfl,fun h=>h.elim⟩
theorem pK{v:Va}{Hn:List Ob}{ok:Prop}:Alike none E' ⟨v,E,Hn,ok⟩ ⟨v,E',Hn,ok⟩:=⟨rfl,rfl,rfl,fun _ _=>rfl⟩
theorem Alike.also{po:Option (Nat->Bool)}{r r':Ev}{c d c' d':Prop}(h:Alike po E' r r')(hc:c=c')(hd:d=d'):Alike po E' ⟨r.v,r.E,r.H,c/\d/\r.ok⟩ ⟨r'.v,r'.E,r'.H,c'/\d'/\r'.ok⟩:=by
 subst hc;subst hd
 exact⟨h.1,h.2.1,by simp only[h.2.2.1],fun k=>h.2.2.2 k.2.2⟩
theorem Alike.also3{po:Option (Nat->Bool)}{r r':Ev}{c d f c' d' f':Prop}(h:Alike po E' r r')(hc:c=c')(hd:d=d')(hf:f=f'):Alike po E' ⟨r.v,r.E,r.H,c/\d/\f/\r.ok⟩ ⟨r'.v,r'.E,r'.H,c'/\d'/\f'/\r'.ok⟩:=by
 subst hc;subst hd;subst hf
 exact⟨h.1,h.2.1,by simp only[h.2.2.1],fun k=>h.2.2.2 k.2.2.2⟩
theorem Alike.also1{po:Option (Nat->Bool)}{r r':Ev}{c c':Prop}(h:Alike po E' r r')(hc:c=c'):Alike po E' ⟨r.v,r.E,r.H,c/\r.ok⟩ ⟨r'.v,r'.E,r'.H,c'/\r'.ok⟩:=by
 subst hc;exact⟨h.1,h.2.1,by simp only[h.2.2.1],fun k=>h.2.2.2 k.2⟩
theorem OT{kp:Nat->Bool}(op:Op)(h:Agree op.operands.toList E E'):Alike (jy E op) E' (fH P kp E H op) (fH P kp E' H op):=by
 unfold Agree at h
 cases op with
 |alloc t =>
  simp only[fH,A5,jy];split
  .split
   .exact pK
   .exact pK
  .exact qL
 |box t x =>
  have h:=h x (by simp[Op.operands]);simp only[fH,oP,jy,Agree.opnd h,Agree.opOk h];exact pK
 |buildSlice t n ps =>
  have hp:∀x∈ps.toList,eY E x.2=eY E' x.2:=fun x hx=>h x.2 (by simp only[Op.operands,mem_map];exact⟨x,hx,rfl⟩)
  simp only[fH,oO,iq,jy,Agree.partsV hp,Agree.partsOk hp]
  cases Ad P t <;> simp only[cond_true,cond_false]
  all_goals repeat' split
  all_goals first|exact pK|exact qL|(cases vX P _ _ <;> exact pK)
 |store t x y =>
  have h1:=h x (by simp[Op.operands]);have h2:=h y (by simp[Op.operands])
  simp only[fH,jy,Agree.opnd h1,Agree.opnd h2];refine Alike.also ?_ (Agree.opOk h1) (Agree.opOk h2);unfold A7
  repeat' split
  all_goals first|exact pK|exact qL
 |convert s d x =>
  have h1:=h x (by simp[Op.operands]);simp only[fH,jy,Agree.opnd h1];refine Alike.also1 ?_ (Agree.opOk h1);unfold A6 Bc il
  repeat' split
  all_goals first|exact pK|exact qL
 |makeSlice t l c =>
  have h1:=h l (by simp[Op.operands]);have h2:=h c (by simp[Op.operands])
  simp only[fH,jy,Agree.opnd h1,Agree.opnd h2];refine Alike.also ?_ (Agree.opOk h1) (Agree.opOk h2);unfold im
  repeat' split
  all_goals first|exact pK|exact qL
 |call c =>
  have ha:∀x∈c.args.toList,eY E x=eY E' x:=fun x hx=>h x (by simp only[Op.operands,Call.operands,Array.toList_append,mem_append];exact .inr hx)
  simp only[fH];split
  .rename_i x y t u hcal hxy _
   have h1:=ha x (by rw[hxy];simp);have h2:=ha y (by rw[hxy];simp)
   simp only[Agree.opnd h1,Agree.opnd h2];refine Alike.also ?_ (Agree.opOk h1) (Agree.opOk h2);simp only[jy,hcal,hxy,Agree.opnd h1];generalize Vc.opnd E' x=dst;unfold oX;cases dst
   case buf o =>
    simp only[]
    repeat' split
    all_goals first|exact qL|exact⟨rfl,rfl,rfl,fun _ m=>CL _ E' m⟩
   all_goals
    simp only[]
    repeat' split
    all_goals first|exact qL|exact pK
  .rename_i x hcal hx
   have h1:=ha x (by rw[hx];simp);simp only[jy,hcal,hx,Agree.opnd h1,Agree.opOk h1];exact pK
  .rename_i x y t u hcal hxy _
   have h1:=ha x (by rw[hxy];simp);have h2:=ha y (by rw[hxy];simp)
   simp only[jy,hcal,hxy,Agree.opnd h1,Agree.opnd h2,Agree.opOk h1,Agree.opOk h2];exact pK
  .rename_i x y t u hcal hxy _
   have h1:=ha x (by rw[hxy];simp);have h2:=ha y (by rw[hxy];simp)
   simp only[Agree.opnd h1,Agree.opnd h2];refine Alike.also ?_ (Agree.opOk h1) (Agree.opOk h2);simp only[jy,hcal,hxy];unfold oC
   repeat' split
   all_goals first|exact pK|exact qL
  .exact qL
 |makeMap t r =>
  cases r with
  |none =>
   simp only[fH,nH,jy];split
   .exact pK
   .exact qL
  |some _=>exact qL
 |mapUpdate t m k x =>
  have h1:=h m (by simp[Op.operands]);have h2:=h k (by simp[Op.operands]);have h3:=h x (by simp[Op.operands])
  simp only[fH,jy,Agree.opnd h1,Agree.opnd h2,Agree.opnd h3];refine Alike.also3 ?_ (Agree.opOk h1) (Agree.opOk h2) (Agree.opOk h3);unfold jS
  repeat' split
  all_goals first|exact pK|exact qL
 |insert t m k x =>
  have h1:=h m (by simp[Op.operands]);have h2:=h k (by simp[Op.operands]);have h3:=h x (by simp[Op.operands])
  simp only[fH,jy,Agree.opnd h1,Agree.opnd h2,Agree.opnd h3];refine Alike.also3 ?_ (Agree.opOk h1) (Agree.opOk h2) (Agree.opOk h3);unfold jS
  repeat' split
  all_goals first|exact pK|exact qL
 |_=>exact qL
end
def looks(ops:Array Oper)(i:Nat):List Operand:=match ops[i]? with
 |some o=>o.op.operands.toList++match o.guard with
  |some (j,_)=>match (ops[j]?).bind (·.dst)with
   |some d=>[.tmp d]
   |none=>[]
  |none=>[]
 |none=>[]
def gQ(ops:Array Oper)(i:Nat):Option Tmp:=(ops[i]?).bind (·.dst)
def pE:Option (Nat->Bool)->eC->eC
 |none,E=>E
 |some f,E=>jP f E
theorem jg(po:Option (Nat->Bool))(E:eC)(m:Nat):fa (pE po E) m=lN po (fa E m):=by
 cases po with
 |none=>rfl
 |some o=>exact CL _ E m
theorem CC(E:eC)(d:Option Tmp)(v:Va)(m:Nat):fa (eU E d v) m=if d=some m then v else fa E m:=by
 cases d with
 |none=>simp[eU]
 |some d=>simp only[eU,fa,Option.some.injEq]
theorem Rel.ext{C:Cx}{E E':eC}{H:List Ob}{a:Act}{w:World}(h:∀m,fa E m=fa E' m)(hR:Rel C E H a w):Rel C E' H a w:=by
 obtain⟨K,G,h1,h2,h3,h4⟩:=hR;exact⟨K,G,h1,h2,fun m=>by rw[<-h m];exact h3 m,h4⟩
theorem Rel.drew{C:Cx}{E:eC}{H:List Ob}{a:Act}{w:World}(hR:Rel C E H a w)(d:Nat):Rel C E H a { w with drawn:=d }:=by
 obtain⟨K,G,h1,h2,h3,h4⟩:=hR;exact⟨K,G,{ h1 with },{ h2 with },h3,h4⟩
section
variable (P:Program) (kl:List Bool) (n:Nat) (B:Bs) (ops:Array Oper)
def QG(i:Nat)(E:eC)(H:List Ob)(E':eC)(H':List Ob):Prop :=
 ∀(a:Act) (w:World) (Q:Exit->Act->World->Prop) (K:Act->World->Prop),Rel (cx P kl n B) E H a w->(∀a' w',Rel (cx P kl n B) E' H' a' w'->K a' w')->wpOp P ops Q i K a w
def Rdr(i:Nat)(S:eC)(v:Va)(H:List Ob):Prop:=∀E,Agree (looks ops i) S E->QG P kl n B ops i E H (eU E (gQ ops i) v) H
def Efr(i:Nat)(S:eC)(v:Va)(po:Option (Nat->Bool))(H H':List Ob):Prop:=∀E,Agree (looks ops i) S E->QG P kl n B ops i E H (eU (pE po E) (gQ ops i) v) H'
structure Pd where
 k:Nat
 S:eC
 v:Va
def Again(e:Pd)(po:Option (Nat->Bool))(H':List Ob):Prop:=Rdr P kl n B ops e.k e.S e.v H'/\lN po e.v=e.v/\Agree (looks ops e.k) e.S (pE po e.S)
def Gr(i:Nat):List Nat:=match ops[i]? with
 |some o=>(o.after.toList.filter (Region.binds .any ·)).map (·.on)
 |none=>[]
def N7:Nat->List Nat->List Nat
 |0,L=>L
 |m+1,L=>N7 m ((L++L.flatMap (Gr ops)).eraseDups)
def uD(i k:Nat):Bool:=(N7 ops 24 (Gr ops i)).contains k
def DC(listed:Array Bool):Prop:=∀i,listed.getD i false=true->∀j∈Gr ops i,listed.getD j false=true
def AnyO(K:eC->List Ob->Prop):Nat->List Pd->Array Bool->eC->List Ob->Prop
 |0,_,listed,E,H=>Region.ready .any ops listed=[]/\∃E2,(∀m,fa E m=fa E2 m)/\K E2 H
 |f+1,obs,listed,E,H=>(Region.ready .any ops listed=[]->∃E2,(∀m,fa E m=fa E2 m)/\K E2 H) /\
  ∀i∈Region.ready .any ops listed,∃v,(Rdr P kl n B ops i E v H/\AnyO K f obs (listed.setIfInBounds i true) (eU E (gQ ops i) v) H) ∨
   (∃po H',Efr P kl n B ops i E v po H H'/\(∀e∈obs,uD ops i e.k=false->Again P kl n B ops e po H')/\AnyO K f obs (listed.setIfInBounds i true) (eU (pE po E) (gQ ops i) v) H')
end
section
variable {P:Program} {kl:List Bool} {n:Nat} {B:Bs} {ops:Array Oper} {K:eC->List Ob->Prop}
theorem xe{listed:Array Bool}(hD:DC ops listed):∀(m:Nat) (L:List Nat),(∀x∈L,listed.getD x false=true)->∀x∈N7 ops m L,listed.getD x false=true
 |0,L,h=>h
 |m+1,L,h=>xe hD m _ fun x hx=>by
  rw[mem_eraseDups,mem_append,mem_flatMap]at hx
  rcases hx with hx|⟨y,hy,hx⟩
  .exact h x hx
  .exact hD y (h y hy) x hx
theorem Pf{listed:Array Bool}{i:Nat}(h:i∈Region.ready .any ops listed):∀j∈Gr ops i,listed.getD j false=true:=by
 obtain⟨_,o,ho,hall⟩:=mem_ready.1 h;intro j hj;simp only[Gr,ho,mem_map,mem_filter]at hj;obtain⟨e,⟨he,hb⟩,rfl⟩:=hj;exact hall e (by simpa using he) hb
theorem ED{listed:Array Bool}(hD:DC ops listed){i k:Nat}(h:i∈Region.ready .any ops listed)(hk:listed.getD k false=false):uD ops i k=false:=by
 cases e:uD ops i k with
 |false=>rfl
 |true =>
  have:=xe hD 24 _ (Pf h) k (by simpa [uD]using e)
  rw[this]at hk;cases hk
theorem l5{listed:Array Bool}{i j:Nat}(h:(listed.setIfInBounds i true).getD j false=true):j=i∨listed.getD j false=true:=by
 by_cases e:i=j
 .exact .inl e.symm
 .rw[getD_set_ne false e]at h;exact .inr h
theorem DC.set{listed:Array Bool}(hD:DC ops listed){i:Nat}(h:i∈Region.ready .any ops listed):DC ops (listed.setIfInBounds i true):=by
 intro x hx j hj
 rcases l5 hx with rfl|hx
 .exact getD_set_true (Pf h j hj)
 .exact getD_set_true (hD x hx j hj)
theorem Agree.refl(xs:List Operand)(E:eC):Agree xs E E:=fun _ _=>rfl
theorem Agree.trans{xs:List Operand}{E E' E2:eC}(h:Agree xs E E')(k:Agree xs E' E2):Agree xs E E2:=fun x hx=>(h x hx).trans (k x hx)
theorem Agree.symm{xs:List Operand}{E E':eC}(h:Agree xs E E'):Agree xs E' E:=fun x hx=>(h x hx).symm
theorem Agree.of_get{xs:List Operand}{E E':eC}(h:∀m,fa E m=fa E' m):Agree xs E E':=fun x _=>by
 cases x <;> first|rfl|exact h _
theorem Agree.put{xs:List Operand}{d:Option Tmp}(h:∀s,d=some s->.tmp s∉xs)(E:eC)(v:Va):Agree xs E (eU E d v):=fun x hx=>by
 cases x with
 |tmp t=>simp only[eY,CC];rw[if_neg fun e=>h t e hx]
 |_=>rfl
theorem Rdr.agree{i:Nat}{S S':eC}{v:Va}{H:List Ob}(h:Rdr P kl n B ops i S v H)(k:Agree (looks ops i) S S'):Rdr P kl n B ops i S' v H:=fun E hE=>h E (k.trans hE)
theorem Efr.agree{i:Nat}{S S':eC}{v:Va}{po:Option (Nat->Bool)}{H H':List Ob}(h:Efr P kl n B ops i S v po H H')(k:Agree (looks ops i) S S'):Efr P kl n B ops i S' v po H H':=fun E hE=>h E (k.trans hE)
theorem vW{xs:List Operand}{po:Option (Nat->Bool)}{S S':eC}(h:Agree xs S S'):Agree xs (pE po S) (pE po S'):=fun x hx=>by
 have:=h x hx
 cases x with
 |tmp t=>simp only[eY,jg]at *;rw[this]
 |_=>rfl
theorem Again.agree{e:Pd}{S':eC}{po:Option (Nat->Bool)}{H':List Ob}(h:Again P kl n B ops e po H')(k:Agree (looks ops e.k) e.S S'):Again P kl n B ops ⟨e.k,S',e.v⟩ po H' :=
 ⟨h.1.agree k,h.2.1,(k.symm.trans h.2.2).trans (vW k)⟩
theorem AnyO.tail{e:Pd}:∀(f:Nat) {obs:List Pd} {listed:Array Bool} {E:eC} {H:List Ob},AnyO P kl n B ops K f (e::obs) listed E H->AnyO P kl n B ops K f obs listed E H
 |0,_,_,_,_,h=>h
 |f+1,_,_,_,_,h=>⟨h.1,fun i hi=>by
  obtain⟨v,h1|⟨po,H',h1,h2,h3⟩⟩:=h.2 i hi
  .exact⟨v,.inl ⟨h1.1,AnyO.tail f h1.2⟩⟩
  .exact⟨v,.inr ⟨po,H',h1,fun e' he=>h2 e' (mem_cons_of_mem _ he),AnyO.tail f h3⟩⟩⟩
theorem AnyO.swap{k:Nat}{S S':eC}{v:Va}(hk:Agree (looks ops k) S S'):∀(f:Nat) {obs:List Pd} {listed:Array Bool} {E:eC} {H:List Ob},AnyO P kl n B ops K f (⟨k,S,v⟩::obs) listed E H->AnyO P kl n B ops K f (⟨k,S',v⟩::obs) listed E H
 |0,_,_,_,_,h=>h
 |f+1,_,_,_,_,h=>⟨h.1,fun i hi=>by
  obtain⟨v,h1|⟨po,H',h1,h2,h3⟩⟩:=h.2 i hi
  .exact⟨v,.inl ⟨h1.1,AnyO.swap hk f h1.2⟩⟩
  .refine⟨v,.inr ⟨po,H',h1,fun e' he ha=>?_,AnyO.swap hk f h3⟩⟩
   rcases mem_cons.1 he with rfl|he
   .exact(h2 _ (mem_cons_self ..) ha).agree hk
   .exact h2 e' (mem_cons_of_mem _ he) ha⟩
theorem AnyO.ext:∀(f:Nat) {obs:List Pd} {listed:Array Bool} {E E':eC} {H:List Ob},(∀m,fa E m=fa E' m)->AnyO P kl n B ops K f obs listed E H->AnyO P kl n B ops K f obs listed E' H
 |0,_,_,_,_,_,he,h=>⟨h.1,by obtain⟨E2,h1,h2⟩:=h.2;exact⟨E2,fun m=>(he m).symm.trans (h1 m),h2⟩⟩
 |f+1,_,_,E,E',_,he,h=>⟨fun hr=>by obtain⟨E2,h1,h2⟩:=h.1 hr;exact⟨E2,fun m=>(he m).symm.trans (h1 m),h2⟩,fun i hi=>by
  obtain⟨v,h1|⟨po,H',h1,h2,h3⟩⟩:=h.2 i hi
  .exact⟨v,.inl ⟨h1.1.agree (Agree.of_get he),AnyO.ext f (fun m=>by simp only[CC];split;rfl;exact he m) h1.2⟩⟩
  .exact⟨v,.inr ⟨po,H',h1.agree (Agree.of_get he),h2,AnyO.ext f (fun m=>by simp only[CC,jg];split;rfl;rw[he m]) h3⟩⟩⟩
theorem oY{i j:Nat}{oi oj:Oper}(hi:ops[i]?=some oi)(hj:ops[j]?=some oj)(h:oi.apart ops oj=true) :
  (∀d,gQ ops i=some d->.tmp d∉looks ops j)/\(∀d,gQ ops j=some d->.tmp d∉looks ops i)/\(∀d,gQ ops i=some d->gQ ops j≠some d):=by
 obtain⟨h1,h2,h3⟩:=Oper.apart_spec h
 have key:∀(k:Nat) (o:Oper) (d:Tmp),ops[k]?=some o->.tmp d∈looks ops k->d∈o.looksAt ops:=by
  intro k o d ho hm;simp only[looks,ho,mem_append]at hm;unfold Oper.looksAt;rw[mem_append]
  rcases hm with hm|hm
  .exact .inl (mem_filterMap.2 ⟨.tmp d,by simpa using hm,rfl⟩)
  .refine .inr ?_
   cases hg:o.guard with
   |none=>rw[hg]at hm;simp at hm
   |some gw =>
    obtain⟨g,want⟩:=gw;rw[hg]at hm;simp only at hm|-
    cases hd:(ops[g]?).bind (·.dst)with
    |none=>rw[hd]at hm;simp at hm
    |some t=>rw[hd]at hm;simp at hm|-;exact hm
 simp only[gQ,hi,hj,Option.bind_some];exact⟨fun d hd hm=>h1 d hd (key j oj d hj hm),fun d hd hm=>h3 d hd (key i oi d hi hm),h2⟩
theorem AnyO.first{k:Nat}{ok:Oper}{v:Va}(hk:ops[k]?=some ok):∀(f:Nat) {obs:List Pd} {listed:Array Bool} {E:eC} {H:List Ob},
  (∀j oj,ops[j]?=some oj->j≠k->listed.getD j true=false->(∀e∈oj.after,Region.binds .any e=true->e.on≠k)->ok.apart ops oj=true)->DC ops listed ->
  k∈Region.ready .any ops listed->Rdr P kl n B ops k E v H->AnyO P kl n B ops K f (⟨k,E,v⟩::obs) (listed.setIfInBounds k true) (eU E (gQ ops k) v) H->AnyO P kl n B ops K (f+1) obs listed E H:=by
 intro f
 induction f with
 |zero =>
  intro obs listed E H _ _ hr hv h;refine⟨fun e=>(by rw[e]at hr;cases hr),fun j hj=>?_⟩
  by_cases e:j=k
  .subst e;exact⟨v,.inl ⟨hv,AnyO.tail 0 h⟩⟩
  .have:=ready_mono hj e
   rw[h.1]at this;cases this
 |succ f ih =>
  intro obs listed E H hfree hD hr hv h;refine⟨fun e=>(by rw[e]at hr;cases hr),fun j hj=>?_⟩
  by_cases e:j=k
  .subst e;exact⟨v,.inl ⟨hv,AnyO.tail (f+1) h⟩⟩
  obtain⟨hjun,oj,hoj,hall⟩:=mem_ready.1 hj;have hkun:=(mem_ready.1 hr).1
  have hkf:listed.getD k false=false:=by
   rcases Nat.lt_or_ge k listed.size with h'|h'
   .simp[h']at hkun|-;exact hkun
   .simp[h']at hkun
  have hnot:∀e∈oj.after,Region.binds .any e=true->e.on≠k:=fun e he hb heq=>by
   have h1:=hall e he hb
   rw[heq,hkf]at h1;cases h1
  obtain⟨a1,a2,a3⟩:=oY hk hoj (hfree j oj hoj e hjun hnot)
  have hfree':∀i oi,ops[i]?=some oi->i≠k->(listed.setIfInBounds j true).getD i true=false->(∀e∈oi.after,Region.binds .any e=true->e.on≠k)->ok.apart ops oi=true:=fun i oi hi hik hun hno=>by
   refine hfree i oi hi hik ?_ hno
   by_cases hji:j=i
   .subst hji;exact hjun
   .rw[getD_set_ne true hji]at hun;exact hun
  have hr':=ready_mono hr (Ne.symm e);obtain⟨u,h1|⟨po,H',h1,h2,h3⟩⟩:=h.2 j (ready_mono hj e)
  .refine⟨u,.inl ⟨h1.1.agree (Agree.put a1 E v).symm,ih hfree' (hD.set hj) hr' (hv.agree (Agree.put a2 E u)) ?_⟩⟩
   have h4:=AnyO.swap (Agree.put a2 E u) f h1.2;rw[Array.setIfInBounds_comm _ _ e];refine AnyO.ext f (fun m=>?_) h4;simp only[CC]
   by_cases c1:gQ ops k=some m
   .rw[if_neg (a3 m c1),if_pos c1,if_pos c1]
   .simp only[if_neg c1]
  .have hag:=h2 ⟨k,E,v⟩ (mem_cons_self ..) (ED hD hj hkf)
   have hE':Agree (looks ops k) E (eU (pE po E) (gQ ops j) u):=hag.2.2.trans (Agree.put a2 _ u);refine⟨u,.inr ⟨po,H',h1.agree (Agree.put a1 E v).symm,fun e' he=>h2 e' (mem_cons_of_mem _ he),ih hfree' (hD.set hj) hr' (hag.1.agree hE') ?_⟩⟩;have h4:=AnyO.swap hE' f h3;rw[Array.setIfInBounds_comm _ _ e];refine AnyO.ext f (fun m=>?_) h4;simp only[CC,jg]
   by_cases c1:gQ ops k=some m
   .rw[if_neg (a3 m c1),if_pos c1,if_pos c1];exact hag.2.1
   .simp only[if_neg c1]
theorem dx{Q:Exit->Act->World->Prop}:∀(f:Nat) {obs:List Pd} {listed:Array Bool} {E:eC} {H:List Ob} {a:Act} {w:World},AnyO P kl n B ops K f obs listed E H->Rel (cx P kl n B) E H a w ->
  (∀E' H' a' w',K E' H'->Rel (cx P kl n B) E' H' a' w'->Q .normal a' w')->wpAny P .any ops Q f listed a w
 |0,_,_,_,_,_,_,h,hR,hK=>⟨h.1,by obtain⟨E2,h1,h2⟩:=h.2;exact hK _ _ _ _ h2 (hR.ext h1)⟩
 |f+1,_,_,_,_,_,_,h,hR,hK=>⟨fun hr=>by obtain⟨E2,h1,h2⟩:=h.1 hr;exact hK _ _ _ _ h2 (hR.ext h1),fun i hi=>by
  obtain⟨v,h1|⟨po,H',h1,h2,h3⟩⟩:=h.2 i hi
  .exact h1.1 _ (Agree.refl _ _) _ _ _ _ hR fun a' w' hR'=>dx f h1.2 hR' hK
  .exact h1 _ (Agree.refl _ _) _ _ _ _ hR fun a' w' hR'=>dx f h3 hR' hK⟩
end
inductive Plan where
 |nil
 |rd (k:Nat) (l:Plan)
 |ef (k:Nat) (L:List Nat) (l:Plan)
 |fk (k:Nat) (L:List Nat) (l:Plan) (k':Nat) (L':List Nat) (l':Plan)
 |f3 (k:Nat) (L:List Nat) (l:Plan) (k':Nat) (L':List Nat) (l':Plan) (j:Nat) (M:List Nat) (m:Plan)
def Plan.length:Plan->Nat
 |.nil=>0
 |.rd _ l=>l.length+1
 |.ef _ _ l=>l.length+1
 |.fk _ _ l _ _ _=>l.length+1
 |.f3 _ _ l _ _ _ _ _ _=>l.length+1
def pl:List (Nat×Option (List Nat))->Plan
 |[]=>.nil
 |(k,none)::l=>.rd k (pl l)
 |(k,some L)::l=>.ef k L (pl l)
def jA(ops:Array Oper):Plan->List Nat->Array Bool->Bool
 |.nil,_,listed=>(Region.ready .any ops listed).isEmpty
 |.rd k l,done,listed=>(Region.ready .any ops listed).contains k&&Region.free .any ops listed k&&jA ops l (k::done) (listed.setIfInBounds k true)
 |.ef k L l,done,listed=>(Region.ready .any ops listed == [k])&&done.all (fun j=>uD ops k j||L.contains j)&&jA ops l done (listed.setIfInBounds k true)
 |.fk k L l k' L' l',done,listed=>(Region.ready .any ops listed).all (fun i=>i == k||i == k')&&(Region.ready .any ops listed).contains k&&done.all (fun j=>uD ops k j||L.contains j)&&done.all (fun j=>uD ops k' j||L'.contains j)&&(l'.length == l.length) &&
   jA ops l done (listed.setIfInBounds k true)&&jA ops l' done (listed.setIfInBounds k' true)
 |.f3 k L l k' L' l' j M m,done,listed=>(Region.ready .any ops listed).all (fun i=>i == k||(i == k'||i == j))&&(Region.ready .any ops listed).contains k&&done.all (fun j=>uD ops k j||L.contains j)&&done.all (fun j=>uD ops k' j||L'.contains j)&&done.all (fun i=>uD ops j i||M.contains i)&&(l'.length == l.length)&&(m.length == l.length) &&
   jA ops l done (listed.setIfInBounds k true)&&jA ops l' done (listed.setIfInBounds k' true)&&jA ops m done (listed.setIfInBounds j true)
structure En where
 k:Nat
 S:eC
 v:Va
 re:Option (Nat->Bool)->List Ob->Prop
def EL(o:Nat->Bool)(S:eC):List Operand->Prop
 |[]=>True
 |.tmp t::xs=>(fa S t).prune o=fa S t/\EL o S xs
 |_::xs=>EL o S xs
def ur(L:List Nat)(po:Option (Nat->Bool))(H':List Ob):List En->Prop
 |[]=>True
 |e::l=>(bif L.contains e.k then e.re po H' else True)/\ur L po H' l
section
variable (P:Program) (kl:List Bool) (n:Nat) (B:Bs) (ops:Array Oper)
def En.ok(e:En):Prop:=∀po H',e.re po H'->Again P kl n B ops ⟨e.k,e.S,e.v⟩ po H'
def Dr(l:Plan)(obs:List En)(E:eC)(H:List Ob)(K:eC->List Ob->Prop):Prop :=
 B.G0.length=kl.length->(∀e∈obs,e.ok P kl n B ops)->∀listed,DC ops listed->jA ops l (obs.map (·.k)) listed=true->AnyO P kl n B ops K l.length (obs.map fun e=>⟨e.k,e.S,e.v⟩) listed E H
def Br(k:Nat)(L:List Nat)(l:Plan)(obs:List En)(E:eC)(H:List Ob)(K:eC->List Ob->Prop):Prop :=
 B.G0.length=kl.length->(∀e∈obs,e.ok P kl n B ops)->∀listed,DC ops listed->k∈Region.ready .any ops listed->(obs.map (·.k)).all (fun j=>uD ops k j||L.contains j)=true->jA ops l (obs.map (·.k)) (listed.setIfInBounds k true)=true ->
  ∃v,(Rdr P kl n B ops k E v H/\AnyO P kl n B ops K l.length (obs.map fun e=>⟨e.k,e.S,e.v⟩) (listed.setIfInBounds k true) (eU E (gQ ops k) v) H) ∨
   (∃po H',Efr P kl n B ops k E v po H H'/\(∀e∈obs.map (fun e=>(⟨e.k,e.S,e.v⟩:Pd)),uD ops k e.k=false->Again P kl n B ops e po H') /\
    AnyO P kl n B ops K l.length (obs.map fun e=>⟨e.k,e.S,e.v⟩) (listed.setIfInBounds k true) (eU (pE po E) (gQ ops k) v) H')
end
section
variable {P:Program} {kl:List Bool} {n:Nat} {B:Bs} {ops:Array Oper} {K:eC->List Ob->Prop} {l:Plan} {obs:List En} {E:eC} {H:List Ob}
theorem Dr.nil(h:K E H):Dr P kl n B ops .nil obs E H K:=fun _ _ listed _ hp=>⟨by simpa [jA]using hp,E,fun _=>rfl,h⟩
theorem vH{k:Nat}{listed:Array Bool}(h:k∈Region.ready .any ops listed):∃o,ops[k]?=some o:=by
 obtain⟨_,o,ho,_⟩:=mem_ready.1 h;exact⟨o,ho⟩
theorem Dr.read{k:Nat}{v:Va}{re:Option (Nat->Bool)->List Ob->Prop}(hr:B.G0.length=kl.length->Rdr P kl n B ops k E v H)(ho:B.G0.length=kl.length->En.ok P kl n B ops ⟨k,E,v,re⟩)(h:Dr P kl n B ops l (⟨k,E,v,re⟩::obs) (eU E (gQ ops k) v) H K) :
  Dr P kl n B ops (.rd k l) obs E H K:=by
 intro hB hobs listed hD hp;simp only[jA,Bool.and_eq_true]at hp;obtain⟨⟨h1,h2⟩,h3⟩:=hp
 have hk:k∈Region.ready .any ops listed:=by simpa using h1
 obtain⟨o,hko⟩:=vH hk
 exact AnyO.first hko l.length (Region.free_spec hko h2) hD hk (hr hB) (h hB (fun e he=>by
  rcases mem_cons.1 he with rfl|he
  .exact ho hB
  .exact hobs e he) _ (hD.set hk) h3)
theorem O3{L:List Nat}{po:Option (Nat->Bool)}{H':List Ob}:∀{obs:List En},ur L po H' obs->∀e∈obs,L.contains e.k=true->e.re po H'
 |[],_,_,he,_=>by cases he
 |e0::obs,h,e,he,hc=>by
  rcases mem_cons.1 he with rfl|he
  .have:=h.1;rw[hc]at this;exact this
  .exact O3 h.2 e he hc
theorem Br.eff{k:Nat}{v:Va}{po:Option (Nat->Bool)}{H':List Ob}{L:List Nat}(hr:B.G0.length=kl.length->Efr P kl n B ops k E v po H H')(ha:ur L po H' obs)(h:Dr P kl n B ops l obs (eU (pE po E) (gQ ops k) v) H' K) :
  Br P kl n B ops k L l obs E H K:=by
 intro hB hobs listed hD hk h2 h3;refine⟨v,.inr ⟨po,H',hr hB,fun e he hna=>?_,h hB hobs _ (hD.set hk) h3⟩⟩;obtain⟨e',he',rfl⟩:=mem_map.1 he;rw[all_eq_true]at h2;have h4:=h2 e'.k (mem_map.2 ⟨e',he',rfl⟩);simp only at hna;rw[hna,Bool.false_or]at h4;exact hobs e' he' po H' (O3 ha e' he' h4)
theorem Br.skip{k:Nat}{v:Va}{L:List Nat}(hr:B.G0.length=kl.length->Rdr P kl n B ops k E v H)(h:Dr P kl n B ops l obs (eU E (gQ ops k) v) H K) :
  Br P kl n B ops k L l obs E H K:=by
 intro hB hobs listed hD hk h2 h3;exact⟨v,.inl ⟨hr hB,h hB hobs _ (hD.set hk) h3⟩⟩
theorem dj{k:Nat}{L:List Nat}(h:Br P kl n B ops k L l obs E H K):Dr P kl n B ops (.ef k L l) obs E H K:=by
 intro hB hobs listed hD hp;simp only[jA,Bool.and_eq_true,beq_iff_eq]at hp;obtain⟨⟨h1,h2⟩,h3⟩:=hp
 have hk:k∈Region.ready .any ops listed:=by rw[h1];simp
 refine⟨fun e=>(by rw[h1]at e;cases e),fun i hi=>?_⟩;rw[h1]at hi
 obtain rfl:i=k:=by simpa using hi
 exact h hB hobs listed hD hk h2 h3
theorem Dr.fk{k k':Nat}{L L':List Nat}{l':Plan}(h:Br P kl n B ops k L l obs E H K)(h':Br P kl n B ops k' L' l' obs E H K):Dr P kl n B ops (.fk k L l k' L' l') obs E H K:=by
 intro hB hobs listed hD hp;simp only[jA,Bool.and_eq_true,beq_iff_eq]at hp;obtain⟨⟨⟨⟨⟨⟨h1,hc⟩,h2⟩,h2'⟩,hl⟩,h3⟩,h3'⟩:=hp
 have hk:k∈Region.ready .any ops listed:=by simpa using hc
 refine⟨fun e=>(by rw[e]at hk;cases hk),fun i hi=>?_⟩;have hik:=all_eq_true.1 h1 i hi;simp only[Bool.or_eq_true,beq_iff_eq]at hik
 rcases hik with rfl|rfl
 .exact h hB hobs listed hD hi h2 h3
 .have:=h' hB hobs listed hD hi h2' h3'
  rw[hl]at this;exact this
theorem Dr.eff{k:Nat}{v:Va}{po:Option (Nat->Bool)}{H':List Ob}{L:List Nat}(hr:B.G0.length=kl.length->Efr P kl n B ops k E v po H H')(ha:ur L po H' obs)(h:Dr P kl n B ops l obs (eU (pE po E) (gQ ops k) v) H' K) :
  Dr P kl n B ops (.ef k L l) obs E H K:=dj (Br.eff hr ha h)
theorem dH{id:Nat}{os:List Oper}{Q:Qt}(plan:Plan)(hm:P.follows .mixedOrders=true)(hl:plan.length=os.length)(hp:jA os.toArray plan [] (Array.replicate os.length false)=true)
  (h:∀K:eC->List Ob->Prop,(∀E H,Q .normal E H->K E H)->Dr P kl n B os.toArray plan [] E H K):Wp P kl n B (.region id os.toArray true) Q E H:=by
 intro hB a w hR;refine wp_region_any hm ?_
 have hD:DC os.toArray (Array.replicate os.length false):=fun i hi=>by
  simp[Array.getD_eq_getD_getElem?,Array.getElem?_replicate]at hi
  split at hi <;> simp at hi
 have h1:=h (Q .normal) (fun _ _ h=>h) hB (fun _ he=>by cases he) _ hD hp;rw[hl]at h1;rw[show os.toArray.size=os.length by simp]
 exact dx _ h1 (hR.drew _) fun E' H' a' w' h1 h2=>⟨E',H',h1,h2⟩
theorem CS{E':eC}{k j:Nat}{o:Oper}{want:Bool}(hk:ops[k]?=some o)(hg:o.guard=some (j,want))(h:Agree (looks ops k) E E'):jE ops.toList E' j want=jE ops.toList E j want:=by
 unfold jE;rw[Array.getElem?_toList]
 cases hj:ops[j]? with
 |none=>rfl
 |some oj =>
  simp only
  cases hd:oj.dst with
  |none=>rfl
  |some d =>
   have:eY E (.tmp d)=eY E' (.tmp d):=h _ (by simp[looks,hk,hg,hj,hd]);simp only[eY]at this;simp only[this]
theorem yG{k:Nat}{o:Oper}{E':eC}(hk:ops[k]?=some o)(h:Agree (looks ops k) E E'):Agree o.op.operands.toList E E':=fun x hx=>h x (by simp only[looks,hk,mem_append];exact .inl hx)
theorem nq{k:Nat}{o:Oper}(hk:ops[k]?=some o)(hg:o.guard=none)(hd:gO n o.dst)(hok:(fA P true E H o.op).ok):Rdr P kl n B ops k E (fA P true E H o.op).v H:=by
 intro E' hE' a w Q K' hR hK;rw[Pa o.op (yG hk hE')]at hok hK
 have hdd:gQ ops k=o.dst:=by simp[gQ,hk]
 rw[hdd]at hK;unfold wpOp;simp only[hk];rw[if_pos (by simp[Region.wanted,hg])];refine .inl ?_;obtain⟨Kk,G,hX,hS,hE,hdf,hn,hkp⟩:=hR;obtain⟨c,hr,hv⟩:=JF (P:=P) hS hE rfl o hok;unfold Oper.wp;rw[hr];have hRV:RelV (cx P kl n B) E' H c (fA P true E' H o.op).v a w:=⟨Kk,G,hX,hS,hE,hdf,hn,hkp,hv⟩;exact hK _ _ (hRV.put o.dst (zX hd))
theorem Pe{k:Nat}{o:Oper}{j:Nat}{want g:Bool}(hk:ops[k]?=some o)(hg:o.guard=some (j,want))(hb:jE ops.toList E j want=some g)(hd:gO n o.dst)(hok:g=true->(fA P g E H o.op).ok) :
  Rdr P kl n B ops k E (.cnd g (fA P g E H o.op).v) H:=by
 intro E' hE' a w Q K' hR hK;have hc:=Pa (P:=P) (g:=g) (H:=H) o.op (yG hk hE');rw[hc]at hok;rw[<-CS hk hg hE']at hb
 have hdd:gQ ops k=o.dst:=by simp[gQ,hk]
 rw[hdd,hc]at hK;have hw:=su hR hg hb;unfold wpOp;simp only[hk];have hR':=hR;obtain⟨Kk,G,hX,hS,hE,hdf,hn,hkp⟩:=hR'
 cases g with
 |true =>
  rw[if_pos hw];refine .inl ?_;obtain⟨c,hr,hv⟩:=JF (P:=P) hS hE rfl o (hok rfl);unfold Oper.wp;rw[hr];have hRV:RelV (cx P kl n B) E' H c (.cnd true (fA P true E' H o.op).v) a w:=⟨Kk,G,hX,hS,hE,hdf,hn,hkp,by simp only[VR];exact⟨fun _=>hv,fun e=>Bool.noConfusion e⟩⟩;exact hK _ _ (hRV.put o.dst (zX hd))
 |false =>
  rw[if_neg (by rw[hw];simp)];have hRV:RelV (cx P kl n B) E' H undef (.cnd false (fA P false E' H o.op).v) a w:=⟨Kk,G,hX,hS,hE,hdf,hn,hkp,by simp[VR]⟩;exact hK _ _ (hRV.put o.dst (zX hd))
theorem wH{k:Nat}{o:Oper}(hk:ops[k]?=some o)(hg:o.guard=none)(hd:gO n o.dst)(hok:(fH P (eR kl) E H o.op).ok):Efr P kl n B ops k E (fH P (eR kl) E H o.op).v (jy E o.op) H (fH P (eR kl) E H o.op).H:=by
 intro E' hE' a w Q K' hR hK;obtain⟨c1,c2,c3,c4⟩:=OT (P:=P) (H:=H) (kp:=eR kl) o.op (yG hk hE')
 have hok':(fH P (eR kl) E' H o.op).ok:=by rw[c3];exact hok
 have hdd:gQ ops k=o.dst:=by simp[gQ,hk]
 rw[hdd]at hK;unfold wpOp;simp only[hk];rw[if_pos (by simp[Region.wanted,hg])];refine .inl ?_;obtain⟨c,w',hr,hR'⟩:=qA (cx P kl n B) E' H o hok' a w hR
 have fg:Rel (cx P kl n B) (eU (pE (jy E o.op) E') o.dst (fH P (eR kl) E H o.op).v) (fH P (eR kl) E H o.op).H (a.put o.dst c) w':=by
  have:=hR'.put o.dst (zX hd);simp only[c1,c2]at this
  exact this.ext fun m=>by simp only[CC,jg];rw[c4 hok m]
 unfold Oper.wp
 rcases hr with hr|⟨hr,rfl⟩
 .rw[hr];exact hK _ _ fg
 .rw[hr];exact hK _ _ fg
theorem AB{k:Nat}{o:Oper}{j:Nat}{want:Bool}(hk:ops[k]?=some o)(hg:o.guard=some (j,want))(hb:jE ops.toList E j want=some true)(hd:gO n o.dst)(hok:(fH P (eR kl) E H o.op).ok):Efr P kl n B ops k E (.cnd true (fH P (eR kl) E H o.op).v) (jy E o.op) H (fH P (eR kl) E H o.op).H:=by
 intro E' hE' a w Q K' hR hK;obtain⟨c1,c2,c3,c4⟩:=OT (P:=P) (H:=H) (kp:=eR kl) o.op (yG hk hE')
 have hok':(fH P (eR kl) E' H o.op).ok:=by rw[c3];exact hok
 have hdd:gQ ops k=o.dst:=by simp[gQ,hk]
 rw[hdd]at hK;unfold wpOp;simp only[hk];rw[<-CS hk hg hE']at hb;rw[if_pos (su hR hg hb)];refine .inl ?_;obtain⟨c,w',hr,hR'⟩:=qA (cx P kl n B) E' H o hok' a w hR
 have fg:Rel (cx P kl n B) (eU (pE (jy E o.op) E') o.dst (.cnd true (fH P (eR kl) E H o.op).v)) (fH P (eR kl) E H o.op).H (a.put o.dst c) w':=by
  have hRc:RelV (cx P kl n B) (fH P (eR kl) E' H o.op).E (fH P (eR kl) E' H o.op).H c (.cnd true (fH P (eR kl) E' H o.op).v) a w':=by
   obtain⟨Kk,G,q1,q2,q3,q4,q5,q6,q7⟩:=hR';exact⟨Kk,G,q1,q2,q3,q4,q5,q6,by simp only[VR];exact⟨fun _=>q7,fun e=>Bool.noConfusion e⟩⟩
  have:=hRc.put o.dst (zX hd);simp only[c1,c2]at this
  exact this.ext fun m=>by simp only[CC,jg];rw[c4 hok m]
 unfold Oper.wp
 rcases hr with hr|⟨hr,rfl⟩
 .rw[hr];exact hK _ _ fg
 .rw[hr];exact hK _ _ fg
end
def iI:Option (Nat×Bool)->Bool->Va->Va
 |none,_,v=>v
 |some _,g,v=>.cnd g v
def ro(ops:List Oper)(o:Oper):List Operand:=o.op.operands.toList++match o.guard with
 |some (j,_)=>match ops[j]? with
  |some oj=>match oj.dst with
   |some d=>[.tmp d]
   |none=>[]
  |none=>[]
 |none=>[]
def JC(ops:List Oper)(o:Oper)(S:eC)(v:Va):Option (Nat->Bool)->Prop
 |none=>True
 |some p=>v.prune p=v/\EL p S (ro ops o)
def vK(P:Program)(ops:List Oper)(o:Oper)(g:Bool)(E:eC)(v:Va)(po:Option (Nat->Bool))(H':List Ob):Prop :=
 (g=true->(fA P g E H' o.op).ok)/\iI o.guard g (fA P g E H' o.op).v=v/\JC ops o E v po
def qe(ops:List Oper)(o:Oper)(E:eC)(v:Va)(av args:List Va)(po:Option (Nat->Bool))(H':List Ob):Prop :=
 jO H' av=some args/\JC ops o E v po
structure Aw where
 obs:List En
 E:eC
 H:List Ob
 ok:Prop
def oD(P:Program)(n:Nat)(ops:List Oper)(k:Nat)(o:Oper)(g:Bool)(aw:Aw)(r:Pv):Aw :=
 ⟨⟨k,aw.E,iI o.guard g r.v,vK P ops o g aw.E (iI o.guard g r.v)⟩::aw.obs,eU aw.E o.dst (iI o.guard g r.v),aw.H,aw.ok/\gO n o.dst/\(g=true->r.ok)⟩
def wZ(n:Nat)(o:Oper)(L:List Nat)(po:Option (Nat->Bool))(aw:Aw)(r:Ev):Aw :=
 ⟨aw.obs,eU (pE po aw.E) o.dst r.v,r.H,aw.ok/\gO n o.dst/\r.ok/\ur L po r.H aw.obs⟩
def wY(n:Nat)(o:Oper)(L:List Nat)(po:Option (Nat->Bool))(aw:Aw)(r:Ev):Aw :=
 ⟨aw.obs,eU (pE po aw.E) o.dst (.cnd true r.v),r.H,aw.ok/\gO n o.dst/\r.ok/\ur L po r.H aw.obs⟩
def wX(n:Nat)(o:Oper)(aw:Aw):Aw:=⟨aw.obs,eU aw.E o.dst (.cnd false .top),aw.H,aw.ok/\gO n o.dst⟩
inductive Rd where
 |done (aw:Aw)
 |stop (l:Plan) (aw:Aw)
def xr:Rd:=.done ⟨[],[],[],False⟩
def hJ(P:Program)(kl:List Bool)(n:Nat)(ops:List Oper):Plan->Aw->Rd
 |.nil,aw=>.done aw
 |.fk k L l k' L' l',aw=>.stop (.fk k L l k' L' l') aw
 |.f3 k L l k' L' l' j M m,aw=>.stop (.f3 k L l k' L' l' j M m) aw
 |.rd k l,aw=>match ops[k]? with
  |some o=>if lY P o=true then .stop (.rd k l) aw else match o.guard with
   |none=>hJ P kl n ops l (oD P n ops k o true aw (fA P true aw.E aw.H o.op))
   |some (j,want)=>match jE ops aw.E j want with
    |some g=>hJ P kl n ops l (oD P n ops k o g aw (fA P g aw.E aw.H o.op))
    |none=>xr
  |none=>xr
 |.ef k L l,aw=>match ops[k]? with
  |some o=>if lY P o=true then .stop (.ef k L l) aw else match o.guard with
   |none=>hJ P kl n ops l (wZ n o L (jy aw.E o.op) aw (fH P (eR kl) aw.E aw.H o.op))
   |some (j,want)=>match jE ops aw.E j want with
    |some true=>hJ P kl n ops l (wY n o L (jy aw.E o.op) aw (fH P (eR kl) aw.E aw.H o.op))
    |some false=>hJ P kl n ops l (wX n o aw)
    |none=>xr
  |none=>xr
def mz(P:Program)(kl:List Bool)(n:Nat)(B:Bs)(ops:Array Oper)(K:eC->List Ob->Prop):Rd->Prop
 |.done aw=>aw.ok/\K aw.E aw.H
 |.stop l aw=>aw.ok/\Dr P kl n B ops l aw.obs aw.E aw.H K
section
variable {P:Program} {kl:List Bool} {n:Nat} {B:Bs} {ops:List Oper} {K:eC->List Ob->Prop} {l:Plan} {obs:List En} {E:eC} {H:List Ob}
theorem wb{k:Nat}{o:Oper}(hk:ops[k]?=some o):looks ops.toArray k=ro ops o:=by
 unfold looks ro;simp only[getElem?_toArray,hk]
 cases o.guard with
 |none=>rfl
 |some gw =>
  obtain⟨j,want⟩:=gw;simp only
  cases ops[j]? with
  |none=>rfl
  |some oj =>
   simp only[Option.bind_some]
   first
    |done
    |(cases oj.dst <;> rfl)
theorem k5{p:Nat->Bool}{S:eC}:∀{xs:List Operand},EL p S xs->Agree xs S (jP p S)
 |[],_,x,hx=>by cases hx
 |y::ys,h,x,hx=>by
  rcases mem_cons.1 hx with rfl|hx
  .cases x with
   |tmp t=>simp only[eY,CL];exact h.1.symm
   |_=>rfl
  .have:EL p S ys:=by cases y <;> first|exact h.2|exact h
   exact k5 this x hx
theorem mr{k:Nat}{o:Oper}(hk:ops[k]?=some o){S:eC}{v:Va}{po:Option (Nat->Bool)}(h:JC ops o S v po):lN po v=v/\Agree (looks ops.toArray k) S (pE po S):=by
 cases po with
 |none=>exact⟨rfl,Agree.refl _ _⟩
 |some p=>exact⟨h.1,by rw[wb hk];exact k5 h.2⟩
theorem yM{o:Oper}(hg:o.guard=none)(g:Bool)(v:Va):iI o.guard g v=v:=by rw[hg];rfl
theorem uV{o:Oper}{x:Nat×Bool}(hg:o.guard=some x)(g:Bool)(v:Va):iI o.guard g v=.cnd g v:=by rw[hg];rfl
theorem uT{os:List Oper}:∀{l:Plan} {aw:Aw},mz P kl n B os.toArray K (hJ P kl n ops l aw)->aw.ok
 |.nil,aw,h=>h.1
 |.fk _ _ _ _ _ _,aw,h=>h.1
 |.f3 _ _ _ _ _ _ _ _ _,aw,h=>h.1
 |.rd k l,aw,h=>by
  unfold hJ at h;split at h
  .split at h
   .exact h.1
   .split at h
    .exact(uT h).1
    .split at h
     .exact(uT h).1
     .exact h.1.elim
  .exact h.1.elim
 |.ef k L l,aw,h=>by
  unfold hJ at h;split at h
  .split at h
   .exact h.1
   .split at h
    .exact(uT h).1
    .split at h
     .exact(uT h).1
     .exact(uT h).1
     .exact h.1.elim
  .exact h.1.elim
theorem iE{k:Nat}{o:Oper}(hk:ops[k]?=some o):ops.toArray[k]?=some o:=by rw[getElem?_toArray];exact hk
theorem ln{k:Nat}{o:Oper}(hk:ops[k]?=some o):gQ ops.toArray k=o.dst:=by simp[gQ,hk]
theorem vL{k:Nat}{o:Oper}{j:Nat}{want:Bool}{v:Va}(hk:ops[k]?=some o)(hg:o.guard=some (j,want))(hb:jE ops E j want=some false)(hd:gO n o.dst):Rdr P kl n B ops.toArray k E (.cnd false v) H:=by
 intro E' hE' a w Q K' hR hKK;rw[ln hk]at hKK
 have hb':jE ops.toArray.toList E j want=some false:=by simpa using hb
 rw[<-CS (iE hk) hg hE']at hb';have hw:=su hR hg hb';unfold wpOp;simp only[iE hk];rw[if_neg (by rw[hw];simp)];obtain⟨Kk,G,hX,hS,hE,hdf,hn,hkp⟩:=hR;exact hKK _ _ (RelV.put (C:=cx P kl n B) (v:=.cnd false v) ⟨Kk,G,hX,hS,hE,hdf,hn,hkp,by simp[VR]⟩ o.dst (zX hd))
theorem Dr.run:∀{l:Plan} {aw:Aw},mz P kl n B ops.toArray K (hJ P kl n ops l aw)->Dr P kl n B ops.toArray l aw.obs aw.E aw.H K
 |.nil,aw,h=>Dr.nil h.2
 |.fk _ _ _ _ _ _,aw,h=>h.2
 |.f3 _ _ _ _ _ _ _ _ _,aw,h=>h.2
 |.rd k l,aw,h=>by
  unfold hJ at h;split at h
  rotate_left
  .exact h.1.elim
  rename_i o hk
  split at h
  .exact h.2
  split at h
  .rename_i hg
   have hok:=(uT h).2;have h':=Dr.run h;simp only[oD]at h';rw[<-ln hk]at h';refine Dr.read (fun _=>?_) (fun _=>?_) h'
   .rw[yM hg];exact nq (iE hk) hg hok.1 (hok.2 rfl)
   .intro po H' hre
    obtain⟨r1,r2,r3⟩:=hre;refine⟨?_,mr hk r3⟩;simp only;rw[yM hg,yM hg]at r2;rw[yM hg,<-r2];exact nq (iE hk) hg hok.1 (r1 rfl)
  .rename_i j want hg
   split at h
   rotate_left
   .exact h.1.elim
   rename_i g hb
   have hok:=(uT h).2;have h':=Dr.run h;simp only[oD]at h';rw[<-ln hk]at h';refine Dr.read (fun _=>?_) (fun _=>?_) h'
   .rw[uV hg];exact Pe (iE hk) hg hb hok.1 hok.2
   .intro po H' hre
    obtain⟨r1,r2,r3⟩:=hre;refine⟨?_,mr hk r3⟩;simp only;rw[uV hg,uV hg]at r2;rw[uV hg,<-r2];exact Pe (iE hk) hg hb hok.1 r1
 |.ef k L l,aw,h=>by
  unfold hJ at h;split at h
  rotate_left
  .exact h.1.elim
  rename_i o hk
  split at h
  .exact h.2
  split at h
  .rename_i hg
   have hok:=(uT h).2;have h':=Dr.run h;simp only[wZ]at h';rw[<-ln hk]at h';exact Dr.eff (fun _=>wH (iE hk) hg hok.1 hok.2.1) hok.2.2 h'
  .rename_i j want hg
   split at h
   .rename_i hb
    have hok:=(uT h).2;have h':=Dr.run h;simp only[wY]at h';rw[<-ln hk]at h';exact Dr.eff (fun _=>AB (iE hk) hg hb hok.1 hok.2.1) hok.2.2 h'
   .rename_i hb
    have hok:=(uT h).2;have h':=Dr.run h;simp only[wX]at h';rw[<-ln hk]at h';exact dj (Br.skip (fun _=>vL hk hg hb hok) h')
   .exact h.1.elim
theorem Br.run{k:Nat}{L:List Nat}{o:Oper}(hk:Is ops[k]? (some o))(hg:Is o.guard none)(h:mz P kl n B ops.toArray K (hJ P kl n ops l (wZ n o L (jy E o.op) ⟨obs,E,H,True⟩ (fH P (eR kl) E H o.op)))):Br P kl n B ops.toArray k L l obs E H K:=by
 unfold Is at *;have hok:=(uT h).2;have h':=Dr.run h;simp only[wZ]at h';rw[<-ln hk]at h';exact Br.eff (fun _=>wH (iE hk) hg hok.1 hok.2.1) hok.2.2 h'
theorem dn{id:Nat}{os:List Oper}{y:Code}{Q:Qt}(plan:Plan)(hm:P.follows .mixedOrders=true)(hl:plan.length=os.length)(hp:jA os.toArray plan [] (Array.replicate os.length false)=true)
  (h:∀K:eC->List Ob->Prop,(∀E H,Wp P kl n B y Q E H->K E H)->mz P kl n B os.toArray K (hJ P kl n os plan ⟨[],E,H,True⟩)):Wp P kl n B (.seq (.region id os.toArray true) y) Q E H :=
 Wp.seq fun _ hK=>dH plan hm hl hp fun K' hK'=>Dr.run (h K' fun E' H' hy=>hK' E' H' (hK E' H' hy))
theorem oM{o:Oper}{c:Call}{fop:Operand}{f:FuncId}{caps args:List Va}{v:Va}(hs:Does P f args [] fun r X=>r=v/\X=[])(ho:o.op=.call c)(hc:c.callee=.value fop)
  (hok:opOk true E fop/\allOk true E c.args.toList) (hf:opnd E fop=.fn f caps) (hp:jO H (opnds E c.args.toList++caps)=some args) (hflat:v.flat=true) {a:Act} {w:World} {Q:Exit->Act->World->Prop} {K':Act->World->Prop} (hR:Rel (cx P kl n B) E H a w)
  (hK:∀c' w',RelV (cx P kl n B) E H c' v a w'->K' (a.put o.dst c') w'):o.wp P a w K' Q:=by
 obtain⟨Kk,G,hX,hS,hE,hdf,hn,hkp⟩:=hR;have hvf:=zD hE rfl fop hok.1;rw[hf]at hvf;simp only[VR]at hvf;obtain⟨cs,hcs,hcv⟩:=hvf;have hargs:=xT hE rfl c.args.toList hok.2;have hall:=yK hS hp (hargs.append hcv);unfold Oper.wp;rw[E9 ho hc hcs hs.1];simp only[Oper.upon];refine(hs.2 (yh Kk G) [] w _ (St.nil (JZ hS) (hS.tb.mono ⟨fun _ h=>.inl h,fun _ _=>rfl⟩)) hall).mono ?_;rintro e w' ⟨c',r,X',K1,G1,rfl,⟨rfl,rfl⟩,hX1,hS1,hv,_⟩
 have fr:∀b,b<w.heap.size->w'.heap[b]?=w.heap[b]?:=fun b hb=>hX1.frame b hb (fun o g0 h=>by simp at h)
 have hX2:Ext (eR kl) B.K0 B.G0 B.w0 Kk G w':=by
  refine hX.trans { Ext.refl (eR kl) Kk G w with
   os:=hX1.os,tape:=hX1.tape,output:=hX1.output,size:=hX1.size,frame:=fun b hb _=>fr b hb }
 exact hK c' w' ⟨Kk,G,hX2,hS.after hX1,fun m=>VR.keep (f:=fun _=>true) ⟨fun _ h=>h,fun b hb=>fr b (hS.kb b hb)⟩ (Mg.refl _ G) _ _ (Va.all_true _) (hE m),hdf,hn,hkp,Gj hflat hv⟩
theorem nr{k:Nat}{o:Oper}{c:Call}{fop:Operand}{f:FuncId}{caps args:List Va}{g:Bool}{v:Va}(hs:g=true->Does P f args [] fun r X=>r=v/\X=[])(hk:ops[k]?=some o)(ho:o.op=.call c)(hc:c.callee=.value fop)
  (hg:match o.guard with|none=>g=true|some (j,want)=>jE ops E j want=some g) (hd:gO n o.dst) (hok:opOk g E fop/\allOk g E c.args.toList) (hf:opnd E fop=.fn f caps) (hp:jO H (opnds E c.args.toList++caps)=some args) (hflat:v.flat=true) :
  Rdr P kl n B ops.toArray k E (iI o.guard g v) H:=by
 intro E' hE' a w Q K' hR hK;have hop:=yG (iE hk) hE';rw[ho]at hop;have hfo:eY E fop=eY E' fop:=hop fop (by simp[Op.operands,Call.operands,hc])
 have ha:Agree c.args.toList E E':=fun x hx=>hop x (by simp only[Op.operands,Call.operands,Array.toList_append,mem_append];exact .inr hx)
 rw[Agree.opOk hfo,Agree.allOk ha]at hok;rw[Agree.opnd hfo]at hf;rw[Agree.opnds ha]at hp;rw[ln hk]at hK;unfold wpOp;simp only[iE hk]
 cases hgd:o.guard with
 |none =>
  rw[hgd]at hg hK;subst hg;rw[if_pos (by simp[Region.wanted,hgd])];exact .inl (oM (hs rfl) ho hc hok hf hp hflat hR fun c' w' hRV=>hK _ _ (hRV.put o.dst (zX hd)))
 |some gw =>
  obtain⟨j,want⟩:=gw;rw[hgd]at hg hK;simp only at hg
  have hb:jE ops.toArray.toList E j want=some g:=by simpa using hg
  rw[<-CS (iE hk) hgd hE']at hb;have hw:=su hR hgd hb
  cases g with
  |true =>
   rw[if_pos hw]
   exact .inl (oM (hs rfl) ho hc hok hf hp hflat hR fun c' w' hRV=>hK _ _ (RelV.put (v:=.cnd true v) (by
    obtain⟨Kk,G,h1,h2,h3,h4,h5,h6,h7⟩:=hRV
    exact⟨Kk,G,h1,h2,h3,h4,h5,h6,by simp only[VR];exact⟨fun _=>h7,fun e=>Bool.noConfusion e⟩⟩) o.dst (zX hd)))
  |false =>
   rw[if_neg (by rw[hw];simp)];obtain⟨Kk,G,hX,hS,hE,hdf,hn,hkp⟩:=hR;exact hK _ _ (RelV.put (C:=cx P kl n B) (v:=.cnd false v) ⟨Kk,G,hX,hS,hE,hdf,hn,hkp,by simp[VR]⟩ o.dst (zX hd))
def ig(E:eC)(o:Oper):Option (FuncId×List Va):=match o.op with
 |.call c=>match c.callee with
  |.value fop=>match opnd E fop with
   |.fn f caps=>some (f,opnds E c.args.toList++caps)
   |_=>none
  |_=>none
 |_=>none
def iU(ops:List Oper)(E:eC)(o:Oper):Option Bool:=match o.guard with
 |none=>some true
 |some (j,want)=>jE ops E j want
theorem Dr.callF{k:Nat}{f:FuncId}{av args:List Va}{g:Bool}{o:Oper}{v:Va}(hs:g=true->Does P f args [] fun r X=>r=v/\X=[])(hk:Is ops[k]? (some o))(ha:Is (ig E o) (some (f,av)))(hg:Is (iU ops E o) (some g))(hp:Is (jO H av) (some args))(hok:iT n g E o)(hf:Is v.flat true)
  (cont:mz P kl n B ops.toArray K (hJ P kl n ops l ⟨⟨k,E,iI o.guard g v,qe ops o E (iI o.guard g v) av args⟩::obs,eU E o.dst (iI o.guard g v),H,True⟩)):Dr P kl n B ops.toArray (.rd k l) obs E H K:=by
 unfold Is at *;unfold ig at ha;split at ha
 rotate_left
 .cases ha
 rename_i c h1
 split at ha
 rotate_left
 .cases ha
 rename_i fop h3
 split at ha
 rotate_left
 .cases ha
 rename_i f' caps h4
 cases ha;obtain⟨hd,hk1,hk2⟩:=ux hok h1 h3
 have hg':match o.guard with|none=>g=true|some (j,want)=>jE ops E j want=some g:=by
  unfold iU at hg
  revert hg
  cases o.guard with
  |none=>exact fun hg=>(Option.some.inj hg).symm
  |some gw=>exact fun hg=>hg
 have h':=Dr.run cont;simp only at h';rw[<-ln hk]at h';refine Dr.read (fun _=>nr hs hk h1 h3 hg' hd ⟨hk1,hk2⟩ h4 hp hf) (fun _=>?_) h';intro po H' hre;exact⟨nr hs hk h1 h3 hg' hd ⟨hk1,hk2⟩ h4 hre.1 hf,mr hk hre.2⟩
end
attribute [go_sem] pl hJ mz oD wZ wY wX iI xr ur vK qe JC EL ro pE jy ig iU jA Op.operands
def IU(m:Nat)(Post:Va->List Ob->Prop)(r:Va)(X:List Ob):Prop :=
 gK r r/\yd X X/\X.length=m/\r.all (fun o=>decide (o<m))=true/\iC (fun o=>decide (o<m)) X=true/\Post r X
def retF(m:Nat)(kl:List Bool)(Post:Va->List Ob->Prop)(H:List Ob)(pv:Pv):Prop :=
 pv.ok/\kl.length<=m/\m<=H.length/\IU m Post (ic m H pv.v) (gJ m H (H.take m))
theorem qY{P:Program}{rs:List ResultVar}{m:Nat}{kl:List Bool}{Post:Va->List Ob->Prop}{E:eC}{H:List Ob}(h:retF m kl Post H (gU P E H rs)):jt P rs m kl Post E H:=by
 obtain⟨h1,h2,h3,h4,h5,h6,h7,h8,h9⟩:=h;exact⟨h1,h2,h3,h7,h8,_,_,h4,h5,h6,h7,h8,h9⟩
section
variable {P:Program} {kl:List Bool} {n:Nat} {B:Bs} {rs:List ResultVar} {m:Nat} {Post:Va->List Ob->Prop} {E:eC} {H:List Ob}
theorem ng(h:Vc.retF m kl Post H (gU P E H rs)):qc P rs m kl Post .ret E H:=qY h
theorem uy(h:Vc.retF m kl Post H (gU P E H rs)):qc P rs m kl Post .normal E H:=qY h
end
section
variable {P:Program} {kl:List Bool} {n:Nat} {B:Bs} {K:eC->List Ob->Prop} {E:eC} {H:List Ob} {ops:Array Oper}
theorem dA{o:Oper}{l:List Oper}{f:FuncId}{av args:List Va}{g:Bool}{v:Va}(hs:g=true->Does P f args [] fun r X=>r=v/\X=[])(ha:Is (ig E o) (some (f,av)))(hb:Is (iU ops.toList E o) (some g))(hp:Is (jO H av) (some args))(hok:iT n g E o)(hf:Is v.flat true)
  (cont:(g=true->v.ok)->fO P kl n B ops K (fB P kl n ops.toList l ⟨eU E o.dst (iI o.guard g v),H,True⟩)):Rg P kl n B ops (o::l) E H K:=by
 unfold Is ig at ha;unfold Is iU at hb;split at ha
 rotate_left
 .cases ha
 rename_i c h1
 split at ha
 rotate_left
 .cases ha
 rename_i fop h3
 split at ha
 rotate_left
 .cases ha
 rename_i f' caps h4
 cases ha;obtain⟨hd,hk⟩:=ux hok h1 h3
 cases hg:o.guard with
 |none =>
  rw[hg]at hb;obtain rfl:true=g:=Option.some.inj hb;have hs:=hs rfl
  refine en hs h1 hg h3 hd hk h4 hp fun r X' ⟨hr,_⟩ hv=>⟨hr ▸ hf,?_⟩
  have c1:=cont fun _=>hr ▸ hv
  rw[yM hg]at c1;exact hr ▸ Rg.run c1
 |some gw =>
  obtain⟨j,want⟩:=gw;rw[hg]at hb
  refine Rg.callG v hs h1 hg hb h3 hd hk h4 hp hf fun hv=>?_
  have c1:=cont hv;rw[uV hg]at c1;exact Rg.run c1
end
section
variable {P:Program} {kl:List Bool} {n:Nat} {B:Bs} {ops:List Oper} {K:eC->List Ob->Prop} {l:Plan} {obs:List En} {E:eC} {H:List Ob}
end
theorem pL{n:Int}(h1:-9223372036854775808<=n)(h2:n<=9223372036854775807):IntKind.i64.wrap n=n:=by
 simp only[IntKind.wrap,IntKind.bits,IntKind.signed];simp;omega
theorem Il{n:Int}(h1:0<=n)(h2:n<=255):IntKind.u8.wrap n=n:=by
 simp only[IntKind.wrap,IntKind.bits,IntKind.signed];simp;omega
attribute [go_sem] IU retF Nat.le_refl Fits lo hi replicate_succ replicate_zero length_set contains_nil contains_cons Bool.or_false Bool.false_or eM
attribute [-go_sem] jt
inductive Sh where
 |b
 |i (k:IntKind)
 |s
 |l (e:List Sh)
def vB(P:Program)(r:TypeId->Option (List Sh)):Nat->List Field->Option (List Sh)
 |_,[]=>some []
 |off,f::fs=>match r f.type with
  |some x=>if f.offset=off/\P.cellsOf f.type=x.length then match vB P r (off+x.length) fs with
   |some y=>some (x++y)
   |none=>none
   else none
  |none=>none
def yc(P:Program):Nat->TypeId->Option (List Sh)
 |0,_=>none
 |m+1,t=>match P.underlying t with
  |some .bool=>some [.b]
  |some (.int k)=>some [.i k]
  |some .string=>some [.s]
  |some (.slice e)=>match yc P m e with
   |some x=>if P.cellsOf e=x.length/\0<x.length then some [.l x]else none
   |none=>none
  |some (.struct fs)=>match vB P (yc P m) 0 fs.toList with
   |some x=>if P.cellsOf t=x.length then some x else none
   |none=>none
  |_=>none
mutual
def ff:Dt->Sh->Prop
 |.b _,.b=>True
 |.i k _,.i k'=>k=k'
 |.s _,.s=>True
 |.l rows,.l e=>yj rows e
 |_,_=>False
def fh:List Dt->List Sh->Prop
 |[],[]=>True
 |d::ds,e::es=>ff d e/\fh ds es
 |_,_=>False
def yj:List (List Dt)->List Sh->Prop
 |[],_=>True
 |r::rs,e=>fh r e/\yj rs e
end
mutual
def li:Dt->Nat
 |.b _=>1
 |.i _ _=>1
 |.s x=>x.length+1
 |.l rows=>jC rows+1
 |.a ds=>fW ds+1
def fW:List Dt->Nat
 |[]=>0
 |d::ds=>li d+fW ds
def jC:List (List Dt)->Nat
 |[]=>0
 |r::rs=>fW r+jC rs
end
mutual
def gu{H:Type}:DataW H->Nat
 |.lit (.string bytes)=>bytes.length+1
 |.lit _=>1
 |.nil=>1
 |.ptr d=>gu d+1
 |.slice elems spare=>g8 elems+g8 spare+1
 |.agg parts=>g8 parts+1
 |.iface _ d=>gu d+1
 |.map entries=>jn entries+1
 |.held _=>1
def g8{H:Type}:List (DataW H)->Nat
 |[]=>0
 |d::r=>gu d+g8 r
def jn{H:Type}:List (Lit×DataW H)->Nat
 |[]=>0
 |x::r=>xj x+jn r
def xj{H:Type}:Lit×DataW H->Nat
 |(.string bytes,d)=>bytes.length+gu d+1
 |(_,d)=>gu d+1
end
theorem OU:∀{a b:List Dt} {x y:List Sh},fh a x->fh b y->fh (a++b) (x++y)
 |[],_,[],_,_,h=>h
 |d::ds,_,e::es,_,h,h'=>by simp only[cons_append,fh]at *;exact⟨h.1,OU h.2 h'⟩
 |[],_,_::_,_,h,_=>by simp[fh]at h
 |_::_,_,[],_,h,_=>by simp[fh]at h
theorem Ft:∀{a:List Dt} {x:List Sh},fh a x->a.length=x.length
 |[],[],_=>rfl
 |d::ds,e::es,h=>by simp only[fh]at h;simp[Ft h.2]
 |[],_::_,h=>by simp[fh]at h
 |_::_,[],h=>by simp[fh]at h
theorem Pi:∀a b:List Dt,fW (a++b)=fW a+fW b
 |[],b=>by simp[fW]
 |d::a,b=>by simp only[cons_append,fW,Pi a b];omega
theorem PC{H:Type}:∀l:List (DataW H),l.length<=g8 l
 |[]=>by simp[g8]
 |d::l=>by
  have h1:=PC l
  have h2:1<=gu d:=by
   cases d with
   |lit l=>cases l <;> simp[gu]
   |_=>simp[gu]
  simp only[length_cons,g8];omega
theorem yT{k:IntKind}{n:Int}(h:(Lit.int k n).wf=true):Fits k n:=by
 simp only[Lit.wf,Bool.and_eq_true,decide_eq_true_eq]at h
 cases k <;> simpa [Fits,lo,hi,IntKind.min,IntKind.max,IntKind.signed,IntKind.bits]using h
section
variable {H:Type} {enc:TypeId×Value->H} {P:Program} {w:World}
abbrev yg(w:World):Nat->Prop:=fun b=>b<w.heap.size
def N8(w:World)(cs:List Value)(d:DataW H)(shs:List Sh):Prop:=∃row,DRs (yg w) w.heap cs row/\fh row shs/\fW row<=gu d
theorem oL{a:Addr}{n:Nat}{cs:List Value}(hn:0<n)(h:w.cells? 0 a n=some cs):cs.length=n/\a.block<w.heap.size/\a.spot=none/\∃cur T fr,w.heap[a.block]?=some (.cells cur T fr)/\∀j v,cs[j]?=some v->cur[a.off+j]?=some v:=by
 obtain⟨_,h2,h3⟩:=World.cells?_some h;have h0:=h3 0 hn
 have hlt:0<cs.length:=by omega
 rw[getElem?_eq_getElem hlt]at h0;unfold World.cell? at h0;have ha:a.add 0=a:=rfl;rw[ha]at h0;split at h0
 rotate_left
 .cases h0
 rename_i cur T fr hb
 split at h0
 .cases h0
 rename_i hs
 have hs:a.spot=none:=by simpa using hs
 refine⟨h2,(Array.getElem?_eq_some_iff.1 hb).1,hs,cur,T,fr,hb,fun j v hj=>?_⟩;have hjl:=(List.getElem?_eq_some_iff.1 hj).1;have hj':=h3 j (by omega);obtain⟨b,o,s⟩:=a;simp only at hs hb|-;subst hs;rw[mK]at hj';unfold World.cell? at hj';simp only[hb]at hj';rw[<-hj,<-hj'];rfl
theorem kR{r:TypeId->Option (List Sh)}{n:Nat}{cs:List Value}
  (ih:∀t cs x shs,DataW.trod enc P w 0 (fun _=>true) true n t cs=some x->r t=some shs->gu x.1<=eM->N8 w cs x.1 shs) :
  ∀(fs:List Field) (off:Nat) (shs:List Sh) (xs:List (DataW H×List MemPlace)),vB P r off fs=some shs->xs.length=fs.length ->
   (∀(i:Nat) (f:Field),fs[i]?=some f->DataW.trod enc P w 0 (fun _=>true) true n f.type ((cs.drop f.offset).take (P.cellsOf f.type))=xs[i]?)->g8 (xs.map (·.1))<=eM ->
   ∃row,DRs (yg w) w.heap ((cs.drop off).take shs.length) row/\fh row shs/\fW row<=g8 (xs.map (·.1))
 |[],off,shs,xs,h,hl,_,_=>by
  simp only[vB]at h;cases h;exact⟨[],by simp[DRs],by simp[fh],by simp[fW]⟩
 |f::fs,off,shs,[],_,hl,_,_=>by simp at hl
 |f::fs,off,shs,y::xs,h,hl,hx,hb=>by
  simp only[vB]at h;split at h
  rotate_left
  .cases h
  rename_i x hr
  split at h
  rotate_left
  .cases h
  rename_i hof
  split at h
  rotate_left
  .cases h
  rename_i z hz
  cases h;simp only[map_cons,g8]at hb|-;have h0:=hx 0 f rfl;simp only[getElem?_cons_zero]at h0;obtain⟨row,h1,h2,h3⟩:=ih _ _ _ _ h0 hr (by omega);obtain⟨row',h1',h2',h3'⟩:=kR ih fs (off+x.length) z xs hz (by simpa using hl) (fun i g hg=>by simpa using hx (i+1) g (by simpa using hg)) (by omega);rw[hof.1,hof.2]at h1;refine⟨row++row',?_,OU h2 h2',by rw[Pi];omega⟩;rw[length_append,take_add,drop_drop];exact h1.append h1'
theorem ov{n c:Nat}{e:TypeId}{shs:List Sh}{b off:Nat}{cur:Array Value}{T:TypeId}{fr:Nat×Nat}(hb:w.heap[b]?=some (.cells cur T fr))(hc:0<c)(hsh:shs.length=c)
  (ih:∀cs x,DataW.trod enc P w 0 (fun _=>true) true n e cs=some x->gu x.1<=eM->N8 w cs x.1 shs) :
  ∀(els:List (DataW H×List MemPlace)) (i0:Nat),(∀i,i<els.length->(w.cells? 0 ((⟨b,off,none⟩:Addr).add ((i0+i)*c)) c).bind (DataW.trod enc P w 0 (fun _=>true) true n e)=els[i]?)->g8 (els.map (·.1))<=eM ->
   ∃vs rows,rows.length=els.length/\DRss (yg w) w.heap c vs rows/\(∀j v,vs[j]?=some v->cur[off+i0*c+j]?=some v)/\yj rows shs/\jC rows<=g8 (els.map (·.1))
 |[],_,_,_=>⟨[],[],rfl,by simp[DRss],by simp,by simp[yj],by simp[jC]⟩
 |y::els,i0,hx,hbk=>by
  simp only[map_cons,g8]at hbk|-;have h0:=hx 0 (by simp);simp only[Nat.add_zero,getElem?_cons_zero,Option.bind_eq_some_iff]at h0;obtain⟨cs,hcs,hy⟩:=h0;rw[mK]at hcs;obtain⟨hl,_,_,cur',T',fr',hb',hcell⟩:=oL hc hcs;simp only at hb' hcell;rw[hb]at hb';cases hb';obtain⟨row,h1,h2,h3⟩:=ih _ _ hy (by omega)
  obtain⟨vs,rows,r1,r2,r3,r4,r5⟩:=ov hb hc hsh ih els (i0+1) (fun i hi=>by
   have:=hx (i+1) (by simpa using hi);rw[show i0+(i+1)=i0+1+i by omega]at this
   simpa using this) (by omega)
  refine⟨cs++vs,row::rows,by simp[r1],?_,fun j v hj=>?_,by simp only[yj];exact⟨h2,r4⟩,by simp only[jC];omega⟩
  .simp only[DRss]
   exact⟨cs,vs,rfl,by rw[Ft h2,hsh],h1,r2⟩
  .rw[getElem?_append]at hj
   split at hj
   .exact hcell j v hj
   .have:=r3 _ v hj
    rw[Nat.add_mul]at this;rw[show off+i0*c+j=off+(i0*c+1*c)+(j-cs.length)by omega];exact this
theorem lL:∀(m n:Nat) (t:TypeId) (cs:List Value) (x:DataW H×List MemPlace) (shs:List Sh),DataW.trod enc P w 0 (fun _=>true) true n t cs=some x->yc P m t=some shs->gu x.1<=eM->N8 w cs x.1 shs
 |0,_,_,_,_,_,_,h,_=>by simp[yc]at h
 |m+1,n,t,cs,x,shs,hx,h,hb=>by
  simp only[yc]at h;split at h
  .rename_i hu
   cases h
   obtain⟨n',rfl⟩:∃n',n=n'+1:=by cases n with|zero=>simp[DataW.trod]at hx|succ n'=>exact⟨n',rfl⟩
   unfold DataW.trod at hx;rw[hu]at hx
   split at hx <;> simp_all
   rename_i b
   exact⟨[.b b],by simp[DRs,DR],by simp[fh,ff],by rw[<-hx];simp[fW,li,gu]⟩
  .rename_i k hu
   cases h;obtain⟨n',rfl,h1,h2⟩:=DataW.trod_int hu hx;subst h1;exact⟨[.i k n'],by simp only[DRs,DR];exact⟨_,_,rfl,⟨rfl,yT h2⟩,rfl⟩,by simp[fh,ff],by simp[fW,li,gu]⟩
  .rename_i hu
   cases h;obtain⟨s,rfl,h1,h2⟩:=DataW.trod_string hu hx;subst h1;simp only[gu]at hb;exact⟨[.s s.data.toList],by simp only[DRs,DR];exact⟨_,_,rfl,⟨rfl,by omega⟩,rfl⟩,by simp[fh,ff],by simp[fW,li,gu]⟩
  .rename_i e hu
   split at h
   rotate_left
   .cases h
   rename_i y hy
   split at h
   rotate_left
   .cases h
   rename_i hc
   cases h
   rcases DataW.trod_slice hu hx with⟨rfl,rfl⟩|⟨a,len,cap,elems,rest,n',rfl,rfl,rfl,_,hl,_,hel,hget,hsp,_⟩
   .exact⟨[.l []],by simp only[DRs,DR];exact⟨_,_,rfl,.inl ⟨⟨none,rfl⟩,trivial⟩,rfl⟩,by simp[fh,ff,yj],by simp[fW,li,jC,gu]⟩
   .obtain⟨hrl,hrest⟩:=hsp rfl
    simp only[gu]at hb
    rcases Nat.eq_zero_or_pos cap with rfl|hcp
    .have:len=0:=by omega
     subst this;exact⟨[.l []],by simp only[DRs,DR];exact⟨_,_,rfl,.inl ⟨⟨some a,rfl⟩,trivial⟩,rfl⟩,by simp[fh,ff,yj],by simp[fW,li,jC,gu]⟩
    .have hc0:0<P.cellsOf e:=by rw[hc.1];exact hc.2
     have first:∃cs0,w.cells? 0 a (P.cellsOf e)=some cs0:=by
      rcases Nat.eq_zero_or_pos len with h0|h0
      .have h1:=hrest 0 (by omega)
       have h2:rest[0]?≠none:=by simp;intro e;subst e;simp at hrl;omega
       cases h3:rest[0]? with
       |none=>exact absurd h3 h2
       |some r0 =>
        rw[h3,h0,Option.bind_eq_some_iff]at h1;obtain⟨cs0,h4,_⟩:=h1;exact⟨cs0,by simpa [Addr.add]using h4⟩
      .have h1:=hget 0 h0
       have h2:elems[0]?≠none:=by simp;intro e;subst e;simp at hel;omega
       cases h3:elems[0]? with
       |none=>exact absurd h3 h2
       |some r0 =>
        rw[h3,Option.bind_eq_some_iff]at h1;obtain⟨cs0,h4,_⟩:=h1;exact⟨cs0,by simpa [Addr.add]using h4⟩
     obtain⟨cs0,hcs0⟩:=first
     obtain⟨_,hblk,hspot,cur,T,fr,hcur,_⟩:=oL hc0 hcs0;obtain⟨b,off,s⟩:=a;simp only at hblk hspot hcur;subst hspot
     obtain⟨vs,rows,r1,r2,r3,r4,r5⟩:=ov (off:=off) hcur hc0 hc.1.symm (fun cs x h1 h2=>lL m n' e cs x y h1 hy h2) elems 0 (fun i hi=>by
      rw[Nat.zero_add];exact hget i (by omega)) (by omega)
     have hlen:=PC (elems.map (·.1));rw[length_map]at hlen;refine⟨[.l rows],?_,by simp only[fh,ff];exact⟨r4,trivial⟩,by simp only[fW,li,gu];omega⟩;simp only[DRs];refine⟨_,_,rfl,?_,rfl⟩;simp only[DR];refine .inr ⟨b,off,cap,cur,T,fr,P.cellsOf e,vs,by rw[r1,hel],hblk,hcur,by omega,by omega,fun j v hj=>by simpa using r3 j v hj,r2⟩
  .rename_i fs hu
   split at h
   rotate_left
   .cases h
   rename_i y hy
   split at h
   rotate_left
   .cases h
   rename_i hc
   cases h;obtain⟨xs,n',rfl,rfl,hcl,mF,hf⟩:=DataW.trod_struct hu hx;simp only[gu]at hb;obtain⟨row,h1,h2,h3⟩:=kR (n:=n') (cs:=cs) (fun t cs x shs a b c=>lL m n' t cs x shs a b c) fs.toList 0 _ xs hy (by simpa using mF) (fun i f hi=>hf i f (by simpa using hi)) (by omega);rw[drop_zero,<-hc,<-hcl,take_length]at h1;exact⟨row,h1,h2,by simp only[gu];omega⟩
  .cases h
def xu(ag:Bool)(row:List Dt):Va:=bif ag then .agg (row.map .p)else match row with
 |[d]=>.p d
 |_=>.top
def kY:List Bool->List (List Dt)->List Va
 |ag::as,r::rs=>xu ag r::kY as rs
 |_,_=>[]
def Cg:List (List Dt)->List (List Sh)->Prop
 |[],[]=>True
 |r::rs,s::ss=>fh r s/\Cg rs ss
 |_,_=>False
theorem EB{G:List Gh}{m:Nat}{t:TypeId}{v:Value}{base:Nat}{d:DataW H}{ps:List MemPlace}{shs:List Sh}(hval:Value.okWide P w .any base t v)(h:DataW.Trod enc P w 0 (fun _=>true) true t v d ps)(hs:yc P m t=some shs)(hb:gu d<=eM) :
  ∃row,VR (yg w) w.heap G v (xu (ft P t) row)/\fh row shs/\fW row<=gu d:=by
 obtain⟨n,hn⟩:=h;obtain⟨row,h1,h2,h3⟩:=lL m n t _ _ _ hn hs hb;refine⟨row,?_,h2,h3⟩
 cases m with
 |zero=>simp[yc]at hs
 |succ m =>
  simp only[yc]at hs;unfold Value.okWide at hval
  have scalar:∀d,P.underlying t=some d->ft P t=false->v.cells.toList=[v]->row.length=1->VR (yg w) w.heap G v (xu (ft P t) row):=by
   intro _ _ ha hc hl;rw[ha]
   match row,hl with
   |[d],_ =>
    rw[hc]at h1;simp only[DRs]at h1;obtain⟨_,_,h,h4,_⟩:=h1;cases h
    simpa only[xu,cond_false,VR]using h4
  split at hs
  .rename_i hu
   cases hs;refine scalar _ hu (by simp[ft,hu]) ?_ (by rw[Ft h2];rfl);rw[hu]at hval;simp only[Cell.okWide,hu,Cell.ok]at hval
   cases v <;> first|rfl|exact hval.elim
  .rename_i k hu
   cases hs;refine scalar _ hu (by simp[ft,hu]) ?_ (by rw[Ft h2];rfl);rw[hu]at hval;simp only[Cell.okWide,hu,Cell.ok]at hval
   cases v <;> first|rfl|exact hval.elim
  .rename_i hu
   cases hs;refine scalar _ hu (by simp[ft,hu]) ?_ (by rw[Ft h2];rfl);rw[hu]at hval;simp only[Cell.okWide,hu,Cell.ok]at hval
   cases v <;> first|rfl|exact hval.elim
  .rename_i e hu
   split at hs
   rotate_left
   .cases hs
   split at hs
   rotate_left
   .cases hs
   cases hs;refine scalar _ hu (by simp[ft,hu]) ?_ (by rw[Ft h2];rfl);rw[hu]at hval;simp only[Cell.okWide,hu,Cell.ok]at hval
   cases v <;> first|rfl|exact hval.elim
  .rename_i fs hu
   rw[hu]at hval;obtain⟨cs,rfl,_⟩:=hval
   have ha:ft P t=true:=by simp[ft,hu]
   rw[ha];simp only[xu,cond_true,VR];exact⟨cs.toList,by simp,h1.vrs⟩
  .cases hs
theorem rP{G:List Gh}{m base:Nat}:∀{ts:List TypeId} {vs:List Value} {ds:List (DataW H)} {ps:List MemPlace} {shss:List (List Sh)},(∀(j:Nat) t v,ts[j]?=some t->vs[j]?=some v->Value.okWide P w .any base t v) ->
  DataW.TrodAll enc P w 0 (fun _=>true) true ts vs ds ps->ts.map (yc P m)=shss.map some->g8 ds<=eM->∃rows,VRs (yg w) w.heap G vs (kY (ts.map (ft P)) rows)/\Cg rows shss/\jC rows<=g8 ds
 |[],vs,ds,ps,shss,_,h,hs,_=>by
  match vs,ds,h with
  |[],[],_ =>
   have:shss=[]:=by cases shss <;> simp_all
   subst this;exact⟨[],by simp[kY,VRs],by simp[Cg],by simp[jC]⟩
 |t::ts,vs,ds,ps,shss,hv,h,hs,hb=>by
  match vs,ds,h with
  |v::vs,d::ds,h =>
   obtain⟨p,q,h0,h1,_⟩:=h
   match shss,hs with
   |[],hs=>simp at hs
   |s::ss,hs =>
    simp only[map_cons,List.cons.injEq]at hs;simp only[g8]at hb;obtain⟨row,r1,r2,r3⟩:=EB (G:=G) (hv 0 t v rfl rfl) h0 hs.1 (by omega);obtain⟨rows,q1,q2,q3⟩:=rP (G:=G) (fun j t v a b=>hv (j+1) t v (by simpa using a) (by simpa using b)) h1 hs.2 (by omega);refine⟨row::rows,?_,by simp only[Cg];exact⟨r2,q2⟩,by simp only[jC,g8];omega⟩;simp only[map_cons,kY,VRs];exact⟨v,vs,rfl,r1,q1⟩
theorem QU{f:Func}{s:ChangeSpec}{apart fresh handsOn again:Bool}{W W':World}{args:Array Value}{v:Value}{ds gs:List (DataW H)}{before pa pv:List MemPlace}
  (hW:DataW.Whole enc P f.params.toList s.vars apart W args.toList ds gs before)
  (hres:∀(b:Nat) (sp:Nat->Bool) (hd:Bool),DataW.TrodAll enc P W' b sp hd f.resultTypes.toList (v.resultList f.resultTypes.size) (s.fn H (ds++gs)).results [])
  (hargs:∀sp:Nat->Bool,(∀p∈before,sp p.block=true)->DataW.TrodAll enc P W' 0 sp true f.params.toList args.toList (s.fn H (ds++gs)).args pa)
  (hvars:∀sp:Nat->Bool,(∀p∈before,sp p.block=true)->DataW.TrodVars enc P W' sp s.vars (s.fn H (ds++gs)).vars pv)
  (hps:before=pa++pv) (hb:RowKit.Below W.heap.size W W')
  (hok:∀(j:Nat) (t:TypeId) (r:Value),f.resultTypes[j]?=some t->(v.resultList f.resultTypes.size)[j]?=some r->Value.okWide P W' .any 0 t r) :
  s.post enc P f apart fresh handsOn again W args v W':=by
 have hlt:∀p∈before,p.block<W.heap.size:=fun p hp=>hW.lt p hp
 have hold:∀p∈before,(fun b=>decide (b<W.heap.size)) p.block=true:=fun p hp=>by simpa using hlt p hp
 refine⟨ds,gs,before,[],pa,pv,hW,hres _ _ _,hargs _ hold,hvars _ hold,World.keptBut_mono (fun p hp=>⟨hp,?_⟩) (hb.frame (·∈before)),fun _=>?_⟩
 .rw[hps,mem_append]at hp
  exact Or.inr hp
 .obtain⟨_,_,_,_,_,hz,hn⟩:=hW
  refine⟨hok,_,_,([]++pa)++pv,⟨[]++pa,pv,ChangeShapes.trodAll_append (hargs _ (fun _ _=>rfl)) (hres _ _ _),hvars _ (fun _ _=>rfl),rfl,?_,?_⟩,?_⟩
  .intro b off hp
   have hin:MemPlace.cell b off∈before:=by rw[hps];simpa using hp
   rw[hb.frozen (hlt _ hin)];exact hz b off hin
  .intro ha
   have:=hn ha;rw[hps]at this
   simpa using this
  .intro p hp _
   rw[hps]
   simpa using hp
theorem kZ(hl:laidOutB P=true){W W':World}{sp:Nat->Bool}:∀{ts:List TypeId} {vs:List Value} {ds:List (DataW H)} {ps:List MemPlace},ts.all (fun t=>P.readableRec t&&decide (t<P.types.size))=true ->
  DataW.TrodAll enc P W 0 (fun _=>true) true ts vs ds ps->(∀p∈ps,W.sameAt W' p)->(∀p∈ps,sp p.block=true)->DataW.TrodAll enc P W' 0 sp true ts vs ds ps
 |[],vs,ds,ps,_,h,_,_=>by
  match vs,ds,h with
  |[],[],h=>exact h
 |t::ts,vs,ds,ps,ha,h,hs,hp=>by
  match vs,ds,h with
  |v::vs,d::ds,h =>
   obtain⟨p,q,h0,h1,rfl⟩:=h;simp only[all_cons,Bool.and_eq_true,decide_eq_true_eq]at ha
   exact⟨p,q,WideElems.Trod_stays hl ha.1.1 ha.1.2 h0 (fun x hx=>hs x (by simp[hx])) (fun x hx=>hp x (by simp[hx])),
    kZ hl ha.2 h1 (fun x hx=>hs x (by simp[hx])) (fun x hx=>hp x (by simp[hx])),rfl⟩
theorem PR{sp:Nat->Bool}{hd:Bool}{base:Nat}:∀{ts:List TypeId} {vs:List Value} {ds:List (DataW H)} {ps:List MemPlace},DataW.TrodAll enc P w base sp hd ts vs ds ps->ds.length=ts.length
 |[],[],[],_,_=>rfl
 |t::ts,v::vs,d::ds,ps,⟨_,_,_,h,_⟩=>by simp[PR h]
 |[],_::_,_,_,h|[],[],_::_,_,h|_::_,[],_,_,h|_::_,_::_,[],_,h=>h.elim
theorem PB:∀a b:List (DataW H),g8 (a++b)=g8 a+g8 b
 |[],b=>by simp[g8]
 |d::a,b=>by simp only[cons_append,g8,PB a b];omega
theorem yJ{α:Type}{f:α->List Dt}{e:List Sh}(h:∀r,fh r e->∃a,r=f a):∀{rows:List (List Dt)},yj rows e->∃l:List α,rows=l.map f
 |[],_=>⟨[],rfl⟩
 |r::rs,hr=>by
  simp only[yj]at hr;obtain⟨a,rfl⟩:=h r hr.1;obtain⟨l,rfl⟩:=yJ h hr.2;exact⟨a::l,rfl⟩
theorem tf{f:FuncId}{fn:Func}{s:ChangeSpec}(hv:s.vars=[]){tb:TypeId}(hres:fn.resultTypes=#[tb])(htb:P.underlying tb=some .bool)
  (hl:laidOutB P=true) (hts:fn.params.toList.all (fun t=>P.readableRec t&&decide (t<P.types.size))=true) {m:Nat} {shss:List (List Sh)} (hsh:fn.params.toList.map (yc P m)=shss.map some)
  {W:World} {base:Nat} {args:Array Value} {ds gs:List (DataW H)} {before:List MemPlace}
  (tp:TabOk (yg W) W.heap) (hspec:∀ds:List (DataW H),ds.length=fn.params.toList.length->s.fn H ds={ results:=[.lit (.bool true)],args:=ds })
  (hdoes:∀rows:List (List Dt),Cg rows shss->jC rows<=g8 ds->Does P f (kY (fn.params.toList.map (ft P)) rows) [] fun r X=>r=.p (.b true)/\X=[])
  (hval:∀(j:Nat) t v,fn.params[j]?=some t->args[j]?=some v->Value.okWide P W .any base t v)
  (hW:DataW.Whole enc P fn.params.toList s.vars false W args.toList ds gs before) (hk:g8 ds<=eM) :
  Calls P f args W fun e W'=>∃v,e=.returned v/\s.post enc P fn false true false false W args v W':=by
 have hW':=hW;obtain⟨p,q,hA,hV,rfl,hfz,_⟩:=hW;rw[hv]at hV
 have hgs:gs=[]/\q=[]:=by
  match gs,hV with
  |[],h=>exact⟨rfl,h⟩
 obtain⟨rfl,rfl⟩:=hgs;obtain⟨rows,h1,h2,h3⟩:=rP (G:=[]) (m:=m) (shss:=shss) (fun j t v a b=>hval j t v (by simpa using a) (by simpa using b)) hA hsh hk;have hS:St (yg W) [] [] W:=⟨rfl,fun _ h=>h,by simp,by simp,by simp,tp⟩;have hc:=(hdoes rows h2 h3).2 _ _ _ _ hS h1;rw[show args.toList.toArray=args by simp]at hc;refine hc.mono ?_;rintro e W' ⟨c,r,X',K',G',rfl,⟨rfl,rfl⟩,hX,hS',hvr,_⟩;simp only[VR,DR]at hvr;subst hvr;refine⟨_,rfl,?_⟩;have hb:RowKit.Below W.heap.size W W':=⟨hX.os,hX.tape,hX.output,hX.size,fun b hb=>hX.frame b hb (fun o g0 h=>by simp at h)⟩
 have hlt:∀x∈p,x.block<W.heap.size:=fun x hx=>hW'.lt x (by simpa using hx)
 have hsp:s.fn H (ds++[])={ results:=[.lit (.bool true)],args:=ds }:=by rw[append_nil];exact hspec ds (PR hA)
 refine QU (pa:=p) (pv:=[]) hW' (fun b sp hd=>?_) (fun sp hh=>?_) (fun sp hh=>?_) rfl hb ?_
 .rw[hsp,hres]
  exact⟨[],[],⟨1,by simp[DataW.trod,Value.cells,htb]⟩,rfl,rfl⟩
 .rw[hsp]
  exact kZ hl hts hA (fun x hx=>hb.same (hlt x hx)) (fun x hx=>hh x (by simpa using hx))
 .rw[hsp,hv]
  rfl
 .intro j t r ht hr
  rw[hres]at ht hr
  match j with
  |0 =>
   simp[Value.resultList]at ht hr
   subst ht;subst hr
   simp[Value.okWide,htb,Cell.okWide,Cell.ok]
  |j+1=>simp at ht
end
section
variable {Z A S:Type} {α:Type}
def eB(p:Prop)[Decidable p](m:Option Z):Option Z:=if p then m else none
def call(a:Option A)(k:A->Option Z):Option Z:=match a with
 |some x=>k x
 |none=>none
def callG(g:Bool)(a:Option A)(d:A)(k:A->Option Z):Option Z:=match g with
 |true=>call a k
 |false=>k d
def eV(l:List α)(i:Int)(k:α->Option Z):Option Z:=if 0<=i then match l[i.toNat]? with
 |some x=>k x
 |none=>none
 else none
def fN(s:List UInt8)(i:Int)(k:Int->Option Z):Option Z:=if 0<=i then match s[i.toNat]? with
 |some x=>k (x.toNat:Int)
 |none=>none
 else none
def jp(F:S->Option Z)(m:(S->Option Z)->Option Z):Option Z:=m F
def forL:List α->Nat->(Nat->α->S->(S->Option Z)->(S->Option Z)->Option Z)->S->(S->Option Z)->Option Z
 |[],_,_,s,k=>k s
 |x::l,i,f,s,k=>f i x s (fun s'=>forL l (i+1) f s' k) k
def loopN:Nat->(S->(S->Option Z)->(S->Option Z)->Option Z)->S->(S->Option Z)->Option Z
 |0,_,_,_=>none
 |n+1,f,s,k=>f s (fun s'=>loopN n f s' k) k
def fJ:Nat:=1099511627776
abbrev eA:=List UInt8
def xR(s:eA):List Int:=s.map fun b=>(b.toNat:Int)
def strOf(l:List Int):eA:=l.map fun n=>UInt8.ofNat n.toNat
theorem zh{z:Z}{p:Prop}[Decidable p]{m:Option Z}(h:eB p m=some z):p/\m=some z:=by
 unfold eB at h;split at h
 .exact⟨by assumption,h⟩
 .cases h
theorem zd{z:Z}{a:Option A}{k:A->Option Z}(h:call a k=some z):∃x,a=some x/\k x=some z:=by
 cases a with
 |none=>cases h
 |some x=>exact⟨x,rfl,h⟩
theorem zx{z:Z}{g:Bool}{a:Option A}{d:A}{k:A->Option Z}(h:callG g a d k=some z):∃x,(g=true->a=some x)/\k x=some z:=by
 cases g with
 |true=>obtain⟨x,h1,h2⟩:=zd h;exact⟨x,fun _=>h1,h2⟩
 |false=>exact⟨d,fun e=>Bool.noConfusion e,h⟩
theorem Tb{z:Z}{c:Bool}{x y:Option Z}(h:(bif c then x else y)=some z)(hc:c=true):x=some z:=by rw[hc]at h;exact h
theorem Tc{z:Z}{c:Bool}{x y:Option Z}(h:(bif c then x else y)=some z)(hc:c=false):y=some z:=by rw[hc]at h;exact h
theorem fV{z:Z}{l:List α}{i:Int}{k:α->Option Z}(h:eV l i k=some z) :
  ∃x,(0<=i/\i<(l.length:Int))/\(∀(e:α->List Dt) (d:List Dt),(l.map e).getD i.toNat d=e x)/\l[i.toNat]?=some x/\k x=some z:=by
 unfold eV at h;split at h
 rotate_left
 .cases h
 split at h
 .rename_i x hx
  have:=(List.getElem?_eq_some_iff.1 hx).1;exact⟨x,⟨by assumption,by omega⟩,fun e d=>by simp[getD_eq_getElem?_getD,hx],hx,h⟩
 .cases h
theorem mL{z:Z}{s:List UInt8}{i:Int}{k:Int->Option Z}(h:fN s i k=some z) :
  ∃c,(0<=i/\i<(s.length:Int))/\(((s.getD i.toNat 0).toNat:Int)=c)/\k c=some z:=by
 unfold fN at h;split at h
 rotate_left
 .cases h
 split at h
 .rename_i x hx
  have:=(List.getElem?_eq_some_iff.1 hx).1;exact⟨_,⟨by assumption,by omega⟩,by simp[getD_eq_getElem?_getD,hx],h⟩
 .cases h
theorem zj{z:Z}{F:S->Option Z}{m:(S->Option Z)->Option Z}(h:jp F m=some z):∃k,(∀s,k s=some z->F s=some z)/\m k=some z:=⟨F,fun _ h=>h,h⟩
theorem zl{z:Z}{l:List α}{i:Nat}{f:Nat->α->S->(S->Option Z)->(S->Option Z)->Option Z}{s:S}{F:S->Option Z}(h:forL l i f s F=some z):∃k,(∀s,k s=some z->F s=some z)/\forL l i f s k=some z:=⟨F,fun _ h=>h,h⟩
theorem jG{z:Z}{n:Nat}{f:S->(S->Option Z)->(S->Option Z)->Option Z}{s:S}{F:S->Option Z}(h:loopN n f s F=some z):∃k,(∀s,k s=some z->F s=some z)/\loopN n f s k=some z:=⟨F,fun _ h=>h,h⟩
theorem py{z:Z}{l:List α}{i:Nat}{f:Nat->α->S->(S->Option Z)->(S->Option Z)->Option Z}{s:S}{k:S->Option Z}(h:forL (l.drop i) i f s k=some z)(hi:i<l.length) :
  ∃x nx,(∀(e:α->List Dt) (d:List Dt),(l.map e).getD i d=e x)/\(∀d,l.getD i d=x)/\(∀s',nx s'=some z->forL (l.drop (i+1)) (i+1) f s' k=some z)/\f i x s nx k=some z:=by
 rw[drop_eq_getElem_cons hi]at h;exact⟨l[i],fun s'=>forL (l.drop (i+1)) (i+1) f s' k,fun e d=>by simp[getD_eq_getElem?_getD,hi],fun d=>by simp[getD_eq_getElem?_getD,hi],fun _ h=>h,h⟩
theorem pw{z:Z}{l:List α}{i:Nat}{f:Nat->α->S->(S->Option Z)->(S->Option Z)->Option Z}{s:S}{k:S->Option Z}(h:forL (l.drop i) i f s k=some z)(hi:¬ i<l.length):k s=some z:=by
 rw[drop_eq_nil_of_le (by omega)]at h;exact h
theorem uP{l:List α}{e:α->List Dt}{d:α}{i:Nat}:(l.map e).getD i (e d)=e (l.getD i d):=by
 simp only[getD_eq_getElem?_getD,getElem?_map]
 cases l[i]? <;> rfl
theorem qM{l:List α}{e:α->List Dt}{d:α}{i:Nat}(hi:i<l.length)(z:List Dt):(l.map e).getD i z=e (l.getD i d):=by
 simp[getD_eq_getElem?_getD,hi]
theorem sG{β:Type}(n:Nat)(f:α->β)(l:List α):(l.map f).take n=(l.take n).map f:=by rw[map_take]
theorem tD{β:Type}(n:Nat)(f:α->β)(l:List α):(l.map f).drop n=(l.drop n).map f:=by rw[map_drop]
theorem oW{β:Type}(f:α->β)(a b:List α):a.map f++b.map f=(a++b).map f:=by rw[map_append]
theorem AN(l:List UInt8):(ByteArray.mk l.toArray).data.toList=l:=by simp
theorem wW:((⟨#[]⟩:ByteArray).data.toList:List UInt8)=[]:=rfl
theorem qo{i n:Nat}(h:decide ((i:Int)<(n:Int))=true):i<n:=by simpa using h
theorem jh{i n:Nat}(h:decide ((i:Int)<(n:Int))=false):¬ i<n:=by simpa using h
theorem pz{i n:Nat}(h:i<n)(hn:n<=274877906944):IntKind.i64.wrap ((i:Int)+1)=((i+1:Nat):Int):=by rw[pL (by omega) (by omega)];omega
end
section
variable {P:Program} {kl:List Bool} {n:Nat} {B:Bs} {Q:Qt} {E:eC} {H:List Ob}
theorem dD{id:Nat}{os:List Oper}(plan:Plan)(hm:P.follows .mixedOrders=true)(hl:plan.length=os.length)(hp:jA os.toArray plan [] (Array.replicate os.length false)=true)
  (h:∀K:eC->List Ob->Prop,(∀E H,Q .normal E H->K E H)->mz P kl n B os.toArray K (hJ P kl n os plan ⟨[],E,H,True⟩)):Wp P kl n B (.region id os.toArray true) Q E H :=
 dH plan hm hl hp fun K' hK'=>Dr.run (h K' fun E' H' hy=>hK' E' H' hy)
end
section
variable {P:Program} {kl:List Bool} {n:Nat} {B:Bs} {Q:Qt} {E:eC} {H:List Ob}
theorem df{x y:Code}(h:∀K:eC->List Ob->Prop,(∀E H,Wp P kl n B y Q E H->K E H)->(∀E H E' H',gA kl E H E' H'->K E' H'->K E H)->Wp P kl n B x (zy K Q) E H):Wp P kl n B (.seq x y) Q E H:=by
 intro hB a w hR;refine wp_seq (wp_mono (h _ (fun _ _ h=>h) (fun _ _ _ _ hw h=>Wp.weak hw h) hB a w hR) ?_);intro e a' w' ⟨E',H',hq,hR'⟩
 cases e <;> first|exact hq hB a' w' hR'|exact⟨E',H',hq,hR'⟩
theorem Wp.forL{Z S α:Type}{z:Z}{f:Nat->α->S->(S->Option Z)->(S->Option Z)->Option Z}{k:S->Option Z}{l:List α}{c:Code}{s0:S}(live:Nat->S->eC)(objs:Nat->S->List Ob)(h0:gA kl E H (live 0 s0) (objs 0 s0))(hm:Vc.forL l 0 f s0 k=some z)
  (round:∀(i:Nat) (s:S),i<=l.length->Vc.forL (l.drop i) i f s k=some z->Wp P kl n B c (zy (fun E' H'=>∃s',i<l.length/\Vc.forL (l.drop (i+1)) (i+1) f s' k=some z/\gA kl E' H' (live (i+1) s') (objs (i+1) s')) Q) (live i s) (objs i s)):Wp P kl n B (.loop c) Q E H:=by
 refine Wp.loop (S:=Nat×S) (fun t=>live t.1 t.2) (fun t=>objs t.1 t.2) (fun t=>t.1<=l.length/\Vc.forL (l.drop t.1) t.1 f t.2 k=some z) (fun t=>l.length-t.1) (0,s0) h0 ⟨Nat.zero_le _,hm⟩ fun t ⟨h1,h2⟩=>(round t.1 t.2 h1 h2).mono fun e E' H' h=>?_
 cases e with
 |normal=>obtain⟨s',h3,h4,h5⟩:=h;exact⟨(t.1+1,s'),⟨h3,h4⟩,by simp only;omega,h5⟩
 |_=>exact h
theorem Wp.loopN{Z S:Type}{z:Z}{f:S->(S->Option Z)->(S->Option Z)->Option Z}{k:S->Option Z}{m:Nat}{c:Code}{s0:S}(live:S->eC)(objs:S->List Ob)(h0:gA kl E H (live s0) (objs s0))(hm:Vc.loopN m f s0 k=some z)
  (round:∀(s:S) (nx:S->Option Z),f s nx k=some z->Wp P kl n B c (zy (fun E' H'=>∃s',nx s'=some z/\gA kl E' H' (live s') (objs s')) Q) (live s) (objs s)):Wp P kl n B (.loop c) Q E H:=by
 refine Wp.loop (S:=Nat×S) (fun t=>live t.2) (fun t=>objs t.2) (fun t=>Vc.loopN t.1 f t.2 k=some z) (fun t=>t.1) (m,s0) h0 hm fun t ht=>?_
 obtain⟨i,s⟩:=t
 cases i with
 |zero=>cases ht
 |succ i =>
  refine(round s (fun s'=>Vc.loopN i f s' k) ht).mono fun e E' H' h=>?_
  cases e with
  |normal=>obtain⟨s',h3,h4⟩:=h;exact⟨(i,s'),h3,Nat.lt_succ_self _,h4⟩
  |_=>exact h
theorem di{c:Code}(slot:Nat)(T:TypeId)(sz:Nat)(h:fa E slot=.nils)(hc:Wp P kl n B c Q ((slot,.buf H.length)::E) (H++[.buf T sz []])):Wp P kl n B c Q E H:=by
 intro hB a w hR
 have hv:a.tmps.getD slot undef=.slice none 0 0:=by
  obtain⟨K,G,_,_,hE,_⟩:=hR;have:=hE slot;rw[h]at this
  simpa only[VR]using this
 obtain⟨K,G,h1,h2,h3,h4,h5,h6,h7⟩:=ku hR T sz;refine hc hB a w ⟨K,G,h1,h2,fun m=>?_,h4,h5,h6⟩;simp only[fa];split
 .rename_i e;subst e;rw[hv];exact h7
 .exact h3 m
theorem ea{c:Code}(slot:Nat)(T:TypeId)(sz:Nat)(h:fa E slot=.full [])(hc:Wp P kl n B c Q ((slot,.buf H.length)::E) (H++[.buf T sz []])):Wp P kl n B c Q E H:=by
 intro hB a w hR
 have hv:∃ad,a.tmps.getD slot undef=.slice ad 0 0:=by
  obtain⟨K,G,_,_,hE,_⟩:=hR;have:=hE slot;rw[h]at this;simp only[VR]at this;exact this.2
 obtain⟨ad,hv⟩:=hv;obtain⟨K,G,h1,h2,h3,h4,h5,h6,h7⟩:=Of hR ad T sz;refine hc hB a w ⟨K,G,h1,h2,fun m=>?_,h4,h5,h6⟩;simp only[fa];split
 .rename_i e;subst e;rw[hv];exact h7
 .exact h3 m
theorem dM{c:Code}(o off:Nat)(X:Ob)(hX:∀K h G,ObR K h G ⟨none,.slice none 0 0⟩ X){T0:TypeId}{vs:List Va}(ho:eT H o=.cells T0 vs)(h:vs[off]?=some .nils)(hc:Wp P kl n B c Q E (H.set o (.cells T0 (vs.set off (.buf H.length)))++[X])):Wp P kl n B c Q E H:=by
 intro hB a w hR;obtain⟨K,G,h1,h2,h3,h4,h5,h6,h7⟩:=Og hR X hX;have hoH:=zP ho (by simp);have hol:=(List.getElem?_eq_some_iff.1 hoH).1
 have ho':(H++[X])[o]?=some (.cells T0 vs):=by rw[getElem?_append_left hol];exact hoH
 have hlen:=h2.len;refine hc hB a w ⟨K,G,h1,⟨by simpa using hlen,h2.kb,h2.gb,h2.inj,fun i g x hg hx=>?_,h2.tb⟩,h3,h4,h5,fun i hi=>?_⟩
 .by_cases e:i=o
  .subst e
   rw[getElem?_append_left (by simpa using hol),getElem?_set_self hol]at hx;cases hx;obtain⟨b,cs,r1,r2,r3⟩:=h2.ob i g _ hg ho';refine⟨b,cs,r1,r2,?_⟩;obtain⟨c0,hc0,hv0⟩:=r3.get off _ h;simp only[VR]at hv0;subst hv0;have:=r3.set h7 off
   rwa [show cs.set off (.slice none 0 0)=cs by
    apply ext_getElem?;intro j
    by_cases hj:off=j
    .subst hj;rw[getElem?_set_self (List.getElem?_eq_some_iff.1 hc0).1,hc0]
    .rw[getElem?_set_ne hj]]at this
  .refine h2.ob i g x hg ?_
   rw[<-hx];simp only[getElem?_append,length_set,getElem?_set_ne (Ne.symm e)]
 .obtain⟨vs',hvs',hkt⟩:=h6 i hi
  by_cases e:i=o
  .subst e
   exact⟨_,by rw[getElem?_append_left (by simpa using hol),getElem?_set_self hol],rfl⟩
  .refine⟨vs',?_,hkt⟩
   rw[<-hvs'];simp only[getElem?_append,length_set,getElem?_set_ne (Ne.symm e)]
theorem dw{c:Code}(o off:Nat)(T:TypeId)(sz:Nat){T0:TypeId}{vs:List Va}(ho:eT H o=.cells T0 vs)(h:vs[off]?=some .nils)(hc:Wp P kl n B c Q E (H.set o (.cells T0 (vs.set off (.buf H.length)))++[.buf T sz []])):Wp P kl n B c Q E H :=
 dM o off (.buf T sz []) (fun _ _ _=>⟨by simp,[],by simp[DRss],.inl ⟨⟨none,rfl⟩,rfl,rfl⟩⟩) ho h hc
theorem dZ{c:Code}(o off:Nat)(T:TypeId){T0:TypeId}{vs:List Va}(ho:eT H o=.cells T0 vs)(h:vs[off]?=some .nils)(hc:Wp P kl n B c Q E (H.set o (.cells T0 (vs.set off (.buf H.length)))++[.sb T []])):Wp P kl n B c Q E H :=
 dM o off (.sb T []) (fun _ _ _=>⟨by simp,.inl ⟨rfl,rfl,rfl⟩⟩) ho h hc
theorem ri:∀{H:List Ob} {o:Nat} {x:Ob},H[o]?=some x->eT H o=x
 |[],_,_,h=>by simp at h
 |y::l,0,x,h=>by simpa [eT]using h
 |y::l,n+1,x,h=>by simp only[eT];exact ri (by simpa using h)
theorem ej{c:Code}(o off:Nat)(v':Va){v:Va}{T0:TypeId}{vs:List Va}(ho:eT H o=.cells T0 vs)(h:vs[off]?=some v)(hl:gK v v')(hc:Wp P kl n B c Q E (H.set o (.cells T0 (vs.set off v')))):Wp P kl n B c Q E H:=by
 intro hB a w ⟨K,G,h1,h2,h3,h4,h5,h6⟩;have hoH:=zP ho (by simp);have hol:=(List.getElem?_eq_some_iff.1 hoH).1;refine hc hB a w ⟨K,G,h1,⟨by simpa using h2.len,h2.kb,h2.gb,h2.inj,fun i g x hg hx=>?_,h2.tb⟩,h3,h4,h5,fun i hi=>?_⟩
 .by_cases e:i=o
  .subst e
   rw[getElem?_set_self hol]at hx;cases hx;obtain⟨b,cs,r1,r2,r3⟩:=h2.ob i g _ hg hoH;refine⟨b,cs,r1,r2,?_⟩;obtain⟨c0,hc0,hv0⟩:=r3.get off _ h;have:=r3.set (lW hl hv0) off
   rwa [show cs.set off c0=cs by
    apply ext_getElem?;intro j
    by_cases hj:off=j
    .subst hj;rw[getElem?_set_self (List.getElem?_eq_some_iff.1 hc0).1,hc0]
    .rw[getElem?_set_ne hj]]at this
  .rw[getElem?_set_ne (Ne.symm e)]at hx
   exact h2.ob i g x hg hx
 .obtain⟨vs',hvs',hkt⟩:=h6 i hi
  by_cases e:i=o
  .subst e
   exact⟨_,getElem?_set_self hol,rfl⟩
  .exact⟨vs',by rw[getElem?_set_ne (Ne.symm e)];exact hvs',hkt⟩
theorem dC{c:Code}(o:Nat)(T:TypeId){T0:TypeId}(ho:eT H o=.cells T0 [.nil,.nils])(hc:Wp P kl n B c Q E (H.set o (.cells T0 [.np o,.buf H.length])++[.sb T []])):Wp P kl n B c Q E H:=by
 refine dZ o 1 T ho rfl ?_;have hol:=(List.getElem?_eq_some_iff.1 (zP ho (by simp))).1;refine ej o 0 (.np o) (T0:=T0) (vs:=[.nil,.buf H.length]) (v:=.nil) ?_ rfl trivial ?_
 .refine ri ?_
  rw[getElem?_append_left (by simpa using hol),getElem?_set_self hol];rfl
 .simpa [set_append,hol]using hc
end
theorem vg(n:Nat):fC n []=True:=eq_true (fun _ h=>by cases h)
theorem sM(n:Nat)(r:List Dt)(rs:List (List Dt)):fC n (r::rs)=(r.length=n/\fC n rs):=by
 apply propext;constructor
 .intro h;exact⟨h r (by simp),fun x hx=>h x (by simp[hx])⟩
 .rintro⟨h1,h2⟩ x hx
  rcases mem_cons.1 hx with rfl|hx
  .exact h1
  .exact h2 x hx
attribute [go_sem] vg sM wW AN zr Ta Option.some.injEq
def qX:List Nat->Nat->Option Nat
 |[],_=>none
 |i::ids,o=>if i=o then some 0 else match qX ids o with
  |some j=>some (j+1)
  |none=>none
def jU:List Nat->Nat->Nat->Nat
 |[],base,j=>base+j
 |i::_,_,0=>i
 |_::ids,base,j+1=>jU ids base j
mutual
def fR(ids:List Nat):Va->Option Va
 |.ptr o a=>match qX ids o with
  |some j=>some (.ptr j a)
  |none=>none
 |.cs o a=>match qX ids o with
  |some j=>some (.cs j a)
  |none=>none
 |.el o s i a=>match qX ids o with
  |some j=>some (.el j s i a)
  |none=>none
 |.buf o=>match qX ids o with
  |some j=>some (.buf j)
  |none=>none
 |.mp o=>match qX ids o with
  |some j=>some (.mp j)
  |none=>none
 |.np o=>match qX ids o with
  |some j=>some (.np j)
  |none=>none
 |.sd o=>match qX ids o with
  |some j=>some (.sd j)
  |none=>none
 |.vw o s a n=>match qX ids o with
  |some j=>some (.vw j s a n)
  |none=>none
 |.bufc o s=>match qX ids o with
  |some j=>some (.bufc j s)
  |none=>none
 |.fn f vs=>match iz ids vs with
  |some us=>some (.fn f us)
  |none=>none
 |.agg vs=>match iz ids vs with
  |some us=>some (.agg us)
  |none=>none
 |.tup vs=>match iz ids vs with
  |some us=>some (.tup us)
  |none=>none
 |.cnd _ _=>none
 |v=>some v
def iz(ids:List Nat):List Va->Option (List Va)
 |[]=>some []
 |v::vs=>match fR ids v,iz ids vs with
  |some u,some us=>some (u::us)
  |_,_=>none
end
mutual
def iL(ids:List Nat):Va->Option Va
 |.nils=>some (.p (.l []))
 |.full r=>some (.p (.l r))
 |.agg vs=>match lc ids vs with
  |some us=>some (.agg us)
  |none=>none
 |v=>fR ids v
def lc(ids:List Nat):List Va->Option (List Va)
 |[]=>some []
 |v::vs=>match iL ids v,lc ids vs with
  |some u,some us=>some (u::us)
  |_,_=>none
end
def pC(ids:List Nat):Ob->Option Ob
 |.cells T vs=>match iz ids vs with
  |some us=>some (.cells T us)
  |none=>none
 |.it _ _ _=>none
 |x=>some x
def jW(ids:List Nat)(H:List Ob):List Nat->Option (List Ob)
 |[]=>some []
 |i::is=>match pC ids (eT H i),jW ids H is with
  |some x,some X=>some (x::X)
  |_,_=>none
mutual
def fi(ids:List Nat)(base:Nat):Va->Va
 |.ptr o a=>.ptr (jU ids base o) a
 |.cs o a=>.cs (jU ids base o) a
 |.el o s i a=>.el (jU ids base o) s i a
 |.buf o=>.buf (jU ids base o)
 |.mp o=>.mp (jU ids base o)
 |.np o=>.np (jU ids base o)
 |.sd o=>.sd (jU ids base o)
 |.vw o s a n=>.vw (jU ids base o) s a n
 |.bufc o s=>.bufc (jU ids base o) s
 |.fn f vs=>.fn f (jq ids base vs)
 |.agg vs=>.agg (jq ids base vs)
 |.tup vs=>.tup (jq ids base vs)
 |.cnd _ _=>.top
 |v=>v
def jq(ids:List Nat)(base:Nat):List Va->List Va
 |[]=>[]
 |v::vs=>fi ids base v::jq ids base vs
end
def Cc(ids:List Nat)(base:Nat):Ob->Ob
 |.cells T vs=>.cells T (jq ids base vs)
 |.it _ _ _=>.gone
 |x=>x
def hO(ids:List Nat)(base:Nat):List Ob->List Ob
 |[]=>[]
 |x::X=>Cc ids base x::hO ids base X
def fE{α:Type}:List α->List Nat->List α->List α
 |H,i::ids,x::X=>fE (H.set i x) ids X
 |H,[],X=>H++X
 |H,_::_,[]=>H
def lf(m:Nat):List Nat->Bool
 |[]=>true
 |i::ids=>decide (i<m)&&!(ids.contains i)&&lf m ids
def gD(ids:List Nat)(H:List Ob)(o:Nat):Bool:=!(ids.contains o&&!(eT H o).kept)
theorem lv:∀{ids:List Nat} {o j:Nat},qX ids o=some j->ids[j]?=some o
 |[],_,_,h=>by simp[qX]at h
 |i::ids,o,j,h=>by
  simp only[qX]at h;split at h
  .cases h;rename_i e;simp[e]
  .split at h
   .rename_i j' hj
    cases h
    simpa using lv hj
   .cases h
theorem Ki{m:Nat}:∀{ids:List Nat},lf m ids=true->ids.Nodup/\∀i∈ids,i<m
 |[],_=>by simp
 |i::ids,h=>by
  simp only[lf,Bool.and_eq_true,decide_eq_true_eq,Bool.not_eq_true',contains_eq_mem,decide_eq_false_iff_not]at h;obtain⟨h1,h2⟩:=Ki h.2;refine⟨nodup_cons.2 ⟨h.1.2,h1⟩,fun j hj=>?_⟩
  rcases mem_cons.1 hj with rfl|hj
  .exact h.1.1
  .exact h2 j hj
theorem uL:∀{ids:List Nat} {base j i:Nat},ids[j]?=some i->jU ids base j=i
 |[],_,_,_,h=>by simp at h
 |i::ids,base,0,k,h=>by simp at h;simp[jU,h]
 |i::ids,base,j+1,k,h=>by simp only[jU];exact uL (by simpa using h)
theorem xo:∀{ids:List Nat} {base j:Nat},ids.length<=j->jU ids base j=base+(j-ids.length)
 |[],_,_,_=>by simp[jU]
 |i::ids,base,0,h=>by simp at h
 |i::ids,base,j+1,h=>by simp only[jU,length_cons];rw[xo (by simpa using h)];omega
theorem Fk{α:Type}:∀{ids:List Nat} {H X:List α},ids.length<=X.length->(fE H ids X).length=H.length+(X.length-ids.length)
 |[],H,X,_=>by simp[fE]
 |i::ids,H,x::X,h=>by simp only[fE];rw[Fk (by simpa using h)];simp
 |i::ids,H,[],h=>by simp at h
theorem EY{α:Type}:∀{ids:List Nat} {H X:List α} {o:Nat},o∉ids->o<H.length->(fE H ids X)[o]?=H[o]?
 |[],H,X,o,_,h=>by simp only[fE];rw[getElem?_append_left h]
 |i::ids,H,x::X,o,hn,h=>by
  simp only[fE];rw[EY (fun h=>hn (by simp[h])) (by simpa using h),getElem?_set_ne (fun e=>hn (by simp[e]))]
 |i::ids,H,[],o,_,_=>rfl
theorem EX{α:Type}:∀{ids:List Nat} {H X:List α} {j i:Nat},ids.Nodup->(∀i∈ids,i<H.length)->ids.length<=X.length->ids[j]?=some i->(fE H ids X)[i]?=X[j]?
 |[],_,_,_,_,_,_,_,h=>by simp at h
 |i::ids,H,[],_,_,_,_,hl,_=>by simp at hl
 |i::ids,H,x::X,0,k,hn,hlt,_,h=>by
  simp at h;subst h;simp only[fE];rw[EY (nodup_cons.1 hn).1 (by simpa using hlt i (by simp)),getElem?_set_self (hlt i (by simp))];rfl
 |i::ids,H,x::X,j+1,k,hn,hlt,hl,h=>by
  simp only[fE];rw[EX (nodup_cons.1 hn).2 (fun q hq=>by simpa using hlt q (by simp[hq])) (by simpa using hl) (by simpa using h)];rfl
theorem LI{α:Type}:∀{ids:List Nat} {H X:List α} {j:Nat},ids.length<=j->(fE H ids X)[H.length+(j-ids.length)]?=X[j]?
 |[],H,X,j,_=>by simp only[fE];rw[getElem?_append_right (by omega)];simp
 |i::ids,H,[],j,_=>by simp only[fE];rw[getElem?_eq_none (by omega)];rfl
 |i::ids,H,x::X,0,h=>by simp at h
 |i::ids,H,x::X,j+1,h=>by
  simp only[fE];have:=LI (H:=H.set i x) (X:=X) (ids:=ids) (j:=j) (by simpa using h);rw[length_set]at this
  simpa using this
theorem ME{α:Type}{ids:List Nat}{H X:List α}{o:Nat}{y:α}(hn:ids.Nodup)(hlt:∀i∈ids,i<H.length)(hl:ids.length<=X.length)(h:(fE H ids X)[o]?=some y) :
  (∃j:Nat,ids[j]?=some o/\X[j]?=some y)∨(o∉ids/\o<H.length/\H[o]?=some y)∨(∃j:Nat,ids.length<=j/\o=H.length+(j-ids.length)/\X[j]?=some y):=by
 by_cases ho:o∈ids
 .obtain⟨j,hj⟩:=getElem?_of_mem ho
  exact .inl ⟨j,hj,by rw[<-EX hn hlt hl hj];exact h⟩
 .rcases Nat.lt_or_ge o H.length with h1|h1
  .exact .inr (.inl ⟨ho,h1,by rw[<-EY ho h1];exact h⟩)
  .refine .inr (.inr ⟨o-H.length+ids.length,by omega,by omega,?_⟩)
   rw[<-LI (H:=H) (X:=X) (j:=o-H.length+ids.length) (ids:=ids) (by omega)];rw[show H.length+(o-H.length+ids.length-ids.length)=o by omega];exact h
section
variable {K:Nat->Prop} {h:Array Obj} {G G1:List Gh} {ids:List Nat} {base:Nat}
mutual
theorem lq(hG:∀(j o:Nat),ids[j]?=some o->G1[j]?=G[o]?):∀{c:Value} {v u:Va},fR ids v=some u->VR K h G c v->VR K h G1 c u
 |c,.p x,u,hp,hv=>by simp only[fR]at hp;cases hp;simpa only[VR]using hv
 |c,.nils,u,hp,hv=>by simp only[fR]at hp;cases hp;simpa only[VR]using hv
 |c,.full rows,u,hp,hv=>by simp only[fR]at hp;cases hp;simpa only[VR]using hv
 |c,.rp row,u,hp,hv=>by simp only[fR]at hp;cases hp;simpa only[VR]using hv
 |c,.nil,u,hp,hv=>by simp only[fR]at hp;cases hp;simpa only[VR]using hv
 |c,.raw v,u,hp,hv=>by simp only[fR]at hp;cases hp;simpa only[VR]using hv
 |c,.er v,u,hp,hv=>by simp only[fR]at hp;cases hp;simpa only[VR]using hv
 |c,.top,u,hp,hv=>by simp only[fR]at hp;cases hp;simp[VR]
 |c,.ptr o a,u,hp,hv=>by
  simp only[fR]at hp;split at hp
  .rename_i j hj;cases hp;simp only[VR]at *;obtain⟨g,b,h1,h2⟩:=hv;exact⟨g,b,by rw[hG j o (lv hj)];exact h1,h2⟩
  .cases hp
 |c,.cs o a,u,hp,hv=>by
  simp only[fR]at hp;split at hp
  .rename_i j hj;cases hp;simp only[VR]at *;obtain⟨g,b,h1,h2⟩:=hv;exact⟨g,b,by rw[hG j o (lv hj)];exact h1,h2⟩
  .cases hp
 |c,.el o s i a,u,hp,hv=>by
  simp only[fR]at hp;split at hp
  .rename_i j hj;cases hp;simp only[VR]at *;obtain⟨g,b,n,cap,h1,h2⟩:=hv;exact⟨g,b,n,cap,by rw[hG j o (lv hj)];exact h1,h2⟩
  .cases hp
 |c,.buf o,u,hp,hv=>by
  simp only[fR]at hp;split at hp
  .rename_i j hj;cases hp;simp only[VR]at *;obtain⟨g,h1,h2⟩:=hv;exact⟨g,by rw[hG j o (lv hj)];exact h1,h2⟩
  .cases hp
 |c,.mp o,u,hp,hv=>by
  simp only[fR]at hp;split at hp
  .rename_i j hj;cases hp;simp only[VR]at *;obtain⟨g,b,h1,h2⟩:=hv;exact⟨g,b,by rw[hG j o (lv hj)];exact h1,h2⟩
  .cases hp
 |c,.np o,u,hp,hv=>by
  simp only[fR]at hp;split at hp
  .rename_i j hj
   cases hp;simp only[VR]at *
   rcases hv with hv|⟨g,b,h1,h2⟩
   .exact .inl hv
   .exact .inr ⟨g,b,by rw[hG j o (lv hj)];exact h1,h2⟩
  .cases hp
 |c,.sd o,u,hp,hv=>by
  simp only[fR]at hp;split at hp
  .rename_i j hj;cases hp;simp only[VR]at *;obtain⟨g,a,n,cap,h1,h2⟩:=hv;exact⟨g,a,n,cap,by rw[hG j o (lv hj)];exact h1,h2⟩
  .cases hp
 |c,.vw o _ _ _,u,hp,hv=>by
  simp only[fR]at hp;split at hp
  .rename_i j hj;cases hp;simp only[VR]at *;obtain⟨g,a,n,cap,h1,h2⟩:=hv;exact⟨g,a,n,cap,by rw[hG j o (lv hj)];exact h1,h2⟩
  .cases hp
 |c,.bufc o _,u,hp,hv=>by
  simp only[fR]at hp;split at hp
  .rename_i j hj;cases hp;simp only[VR]at *;obtain⟨g,a,n,cap,h1,h2⟩:=hv;exact⟨g,a,n,cap,by rw[hG j o (lv hj)];exact h1,h2⟩
  .cases hp
 |c,.fn f vs,u,hp,hv=>by
  simp only[fR]at hp;split at hp
  .rename_i us hu;cases hp;simp only[VR]at *;obtain⟨cs,h1,h2⟩:=hv;exact⟨cs,h1,Gt hG hu h2⟩
  .cases hp
 |c,.agg vs,u,hp,hv=>by
  simp only[fR]at hp;split at hp
  .rename_i us hu;cases hp;simp only[VR]at *;obtain⟨cs,h1,h2⟩:=hv;exact⟨cs,h1,Gt hG hu h2⟩
  .cases hp
 |c,.tup vs,u,hp,hv=>by
  simp only[fR]at hp;split at hp
  .rename_i us hu;cases hp;simp only[VR]at *;obtain⟨cs,h1,h2⟩:=hv;exact⟨cs,h1,Gt hG hu h2⟩
  .cases hp
 |c,.cnd _ _,u,hp,_=>by simp[fR]at hp
theorem Gt(hG:∀(j o:Nat),ids[j]?=some o->G1[j]?=G[o]?):∀{cs:List Value} {vs us:List Va},iz ids vs=some us->VRs K h G cs vs->VRs K h G1 cs us
 |cs,[],us,hp,hv=>by simp only[iz]at hp;cases hp;simpa only[VRs]using hv
 |cs,v::vs,us,hp,hv=>by
  simp only[iz]at hp;split at hp
  .rename_i u us' h1 h2
   cases hp;simp only[VRs]at *;obtain⟨c,cs',e1,e2,e3⟩:=hv;exact⟨c,cs',e1,lq hG h1 e2,Gt hG h2 e3⟩
  .cases hp
end
mutual
theorem xm(hG:∀(j:Nat) (g:Gh),G1[j]?=some g->G[jU ids base j]?=some g):∀{c:Value} {v:Va},VR K h G1 c v->VR K h G c (fi ids base v)
 |c,.p x,hv=>by simpa only[fi,VR]using hv
 |c,.nils,hv=>by simpa only[fi,VR]using hv
 |c,.full rows,hv=>by simpa only[fi,VR]using hv
 |c,.rp row,hv=>by simpa only[fi,VR]using hv
 |c,.nil,hv=>by simpa only[fi,VR]using hv
 |c,.raw v,hv=>by simpa only[fi,VR]using hv
 |c,.er v,hv=>by simpa only[fi,VR]using hv
 |c,.top,_=>by simp[fi,VR]
 |c,.ptr o a,hv=>by simp only[fi,VR]at *;obtain⟨g,b,h1,h2⟩:=hv;exact⟨g,b,hG o g h1,h2⟩
 |c,.cs o a,hv=>by simp only[fi,VR]at *;obtain⟨g,b,h1,h2⟩:=hv;exact⟨g,b,hG o g h1,h2⟩
 |c,.el o s i a,hv=>by simp only[fi,VR]at *;obtain⟨g,b,n,cap,h1,h2⟩:=hv;exact⟨g,b,n,cap,hG o g h1,h2⟩
 |c,.buf o,hv=>by simp only[fi,VR]at *;obtain⟨g,h1,h2⟩:=hv;exact⟨g,hG o g h1,h2⟩
 |c,.mp o,hv=>by simp only[fi,VR]at *;obtain⟨g,b,h1,h2⟩:=hv;exact⟨g,b,hG o g h1,h2⟩
 |c,.np o,hv=>by
  simp only[fi,VR]at *
  rcases hv with hv|⟨g,b,h1,h2⟩
  .exact .inl hv
  .exact .inr ⟨g,b,hG o g h1,h2⟩
 |c,.sd o,hv=>by simp only[fi,VR]at *;obtain⟨g,a,n,cap,h1,h2⟩:=hv;exact⟨g,a,n,cap,hG o g h1,h2⟩
 |c,.vw o _ _ _,hv=>by simp only[fi,VR]at *;obtain⟨g,a,n,cap,h1,h2⟩:=hv;exact⟨g,a,n,cap,hG o g h1,h2⟩
 |c,.bufc o _,hv=>by simp only[fi,VR]at *;obtain⟨g,a,n,cap,h1,h2⟩:=hv;exact⟨g,a,n,cap,hG o g h1,h2⟩
 |c,.fn f vs,hv=>by simp only[fi,VR]at *;obtain⟨cs,h1,h2⟩:=hv;exact⟨cs,h1,Gd hG h2⟩
 |c,.agg vs,hv=>by simp only[fi,VR]at *;obtain⟨cs,h1,h2⟩:=hv;exact⟨cs,h1,Gd hG h2⟩
 |c,.tup vs,hv=>by simp only[fi,VR]at *;obtain⟨cs,h1,h2⟩:=hv;exact⟨cs,h1,Gd hG h2⟩
 |c,.cnd _ _,_=>by simp[fi,VR]
theorem Gd(hG:∀(j:Nat) (g:Gh),G1[j]?=some g->G[jU ids base j]?=some g):∀{cs:List Value} {vs:List Va},VRs K h G1 cs vs->VRs K h G cs (jq ids base vs)
 |cs,[],hv=>by simpa only[jq,VRs]using hv
 |cs,v::vs,hv=>by
  simp only[jq,VRs]at *;obtain⟨c,cs',e1,e2,e3⟩:=hv;exact⟨c,cs',e1,xm hG e2,Gd hG e3⟩
end
mutual
theorem DH(hG:∀(j o:Nat),ids[j]?=some o->G1[j]?=G[o]?):∀{c:Value} {v u:Va},iL ids v=some u->VR K h G c v->VR K h G1 c u
 |c,.nils,u,hp,hv=>by simp only[iL]at hp;cases hp;simp only[VR,DR]at *;exact .inl ⟨⟨none,hv⟩,trivial⟩
 |c,.full r,u,hp,hv=>by simp only[iL]at hp;cases hp;simp only[VR]at *;exact hv.1
 |c,.agg vs,u,hp,hv=>by
  simp only[iL]at hp;split at hp
  .rename_i us h1
   cases hp;simp only[VR]at *;obtain⟨cs,e1,e2⟩:=hv;exact⟨cs,e1,lJ hG h1 e2⟩
  .cases hp
 |c,.p _,u,hp,hv=>by unfold iL at hp;exact lq hG hp hv
 |c,.rp _,u,hp,hv=>by unfold iL at hp;exact lq hG hp hv
 |c,.ptr _ _,u,hp,hv=>by unfold iL at hp;exact lq hG hp hv
 |c,.cs _ _,u,hp,hv=>by unfold iL at hp;exact lq hG hp hv
 |c,.el _ _ _ _,u,hp,hv=>by unfold iL at hp;exact lq hG hp hv
 |c,.buf _,u,hp,hv=>by unfold iL at hp;exact lq hG hp hv
 |c,.mp _,u,hp,hv=>by unfold iL at hp;exact lq hG hp hv
 |c,.np _,u,hp,hv=>by unfold iL at hp;exact lq hG hp hv
 |c,.sd _,u,hp,hv=>by unfold iL at hp;exact lq hG hp hv
 |c,.bufc _ _,u,hp,hv=>by unfold iL at hp;exact lq hG hp hv
 |c,.vw _ _ _ _,u,hp,hv=>by unfold iL at hp;exact lq hG hp hv
 |c,.fn _ _,u,hp,hv=>by unfold iL at hp;exact lq hG hp hv
 |c,.tup _,u,hp,hv=>by unfold iL at hp;exact lq hG hp hv
 |c,.nil,u,hp,hv=>by unfold iL at hp;exact lq hG hp hv
 |c,.cnd _ _,u,hp,hv=>by unfold iL at hp;exact lq hG hp hv
 |c,.raw _,u,hp,hv=>by unfold iL at hp;exact lq hG hp hv
 |c,.er _,u,hp,hv=>by unfold iL at hp;exact lq hG hp hv
 |c,.top,u,hp,hv=>by unfold iL at hp;exact lq hG hp hv
theorem lJ(hG:∀(j o:Nat),ids[j]?=some o->G1[j]?=G[o]?):∀{cs:List Value} {vs us:List Va},lc ids vs=some us->VRs K h G cs vs->VRs K h G1 cs us
 |cs,[],us,hp,hv=>by simp only[lc]at hp;cases hp;simpa only[VRs]using hv
 |cs,v::vs,us,hp,hv=>by
  simp only[lc]at hp;split at hp
  .rename_i u us' h1 h2
   cases hp;simp only[VRs]at *;obtain⟨c,cs',e1,e2,e3⟩:=hv;exact⟨c,cs',e1,DH hG h1 e2,lJ hG h2 e3⟩
  .cases hp
end
theorem DG(hG:∀(j o:Nat),ids[j]?=some o->G1[j]?=G[o]?){g:Gh}{x y:Ob}(hp:pC ids x=some y)(hx:ObR K h G g x):ObR K h G1 g y:=by
 cases x with
 |cells T vs =>
  simp only[pC]at hp;split at hp
  .rename_i us hu
   cases hp;obtain⟨b,cs,h1,h2,h3⟩:=hx;exact⟨b,cs,h1,h2,Gt hG hu h3⟩
  .cases hp
 |it _ _ _=>simp[pC]at hp
 |_=>simp only[pC]at hp;cases hp;exact hx
theorem nf{x y:Ob}(hp:pC ids x=some y):y.kept=x.kept:=by
 cases x with
 |cells T vs =>
  simp only[pC]at hp;split at hp
  .cases hp;rfl
  .cases hp
 |it _ _ _=>simp[pC]at hp
 |_=>simp only[pC]at hp;cases hp;rfl
theorem Ey(hG:∀(j:Nat) (g:Gh),G1[j]?=some g->G[jU ids base j]?=some g){g:Gh}{x:Ob}(hx:ObR K h G1 g x):ObR K h G g (Cc ids base x):=by
 cases x with
 |cells T vs =>
  obtain⟨b,cs,h1,h2,h3⟩:=hx;exact⟨b,cs,h1,h2,Gd hG h3⟩
 |it _ _ _=>trivial
 |_=>exact hx
end
theorem xn(ids:List Nat)(base:Nat)(x:Ob):(Cc ids base x).kept=x.kept:=by cases x <;> rfl
theorem GF(ids:List Nat)(base:Nat):∀(X:List Ob) (j:Nat),(hO ids base X)[j]?=(X[j]?).map (Cc ids base)
 |[],j=>by simp[hO]
 |x::X,0=>by simp[hO]
 |x::X,j+1=>by simp only[hO,getElem?_cons_succ];exact GF ids base X j
theorem uX(ids:List Nat)(base:Nat):∀X:List Ob,(hO ids base X).length=X.length
 |[]=>rfl
 |x::X=>by simp[hO,uX ids base X]
theorem JX{ids:List Nat}{H:List Ob}:∀{is:List Nat} {X:List Ob},jW ids H is=some X->X.length=is.length/\∀(j i:Nat),is[j]?=some i->∃x,X[j]?=some x/\pC ids (eT H i)=some x
 |[],X,h=>by simp only[jW]at h;cases h;simp
 |i::is,X,h=>by
  simp only[jW]at h;split at h
  .rename_i x X' h1 h2
   cases h;obtain⟨h3,h4⟩:=JX h2;refine⟨by simp[h3],fun j k hj=>?_⟩
   cases j with
   |zero=>simp at hj;subst hj;exact⟨x,rfl,h1⟩
   |succ j=>simpa using h4 j k (by simpa using hj)
  .cases h
theorem Gc:∀{H:List Ob} {o:Nat} {x:Ob},H[o]?=some x->eT H o=x
 |[],_,_,h=>by simp at h
 |y::H,0,x,h=>by simp at h;simp[eT,h]
 |y::H,o+1,x,h=>by simp only[eT];exact Gc (by simpa using h)
theorem nU{X:List Ob}{o:Nat}{x:Ob}(h:X[o]?=some x)(hk:x.kept=true):eR (kinds X) o=true:=by
 induction X generalizing o with
 |nil=>simp at h
 |cons y X ih =>
  cases o with
  |zero=>simp at h;subst h;simp[kinds,eR,hk]
  |succ o=>simp only[kinds,eR];exact ih (by simpa using h)
section
variable {P:Program} {kl:List Bool} {n:Nat} {B:Bs} {K:eC->List Ob->Prop} {E:eC} {H:List Ob} {ops:Array Oper}
theorem EU{o:Oper}{c:Call}{fop:Operand}{f:FuncId}{caps args:List Va}{X:List Ob}{Post:Va->List Ob->Prop}(ids:List Nat)(hs:Does P f args X Post)(e1:o.op=.call c)(e3:c.callee=.value fop)(hk:opOk true E fop/\allOk true E c.args.toList)(e4:opnd E fop=.fn f caps)
  (hp:lc ids (opnds E c.args.toList++caps)=some args) (hXs:jW ids H ids=some X) (hids:lf H.length ids=true) {a:Act} {w:World} {Q:Exit->Act->World->Prop} {K':Act->World->Prop} (hR:Rel (cx P kl n B) E H a w)
  (hK':∀c' r X' w',Post r X'->r.ok->RelV (cx P kl n B) (jP (gD ids H) E) (fE (ix (gD ids H) H) ids (hO ids H.length X')) c' (fi ids H.length r) a w'->K' (a.put o.dst c') w'):o.wp P a w K' Q:=by
 obtain⟨Kk,G,hX,hS,hE,hdf,hn,hkp⟩:=hR;have hvf:=zD hE rfl fop hk.1;rw[e4]at hvf;simp only[VR]at hvf;obtain⟨cs,hcs,hcv⟩:=hvf;have hargs:=xT hE rfl c.args.toList hk.2;obtain⟨hnd,hlt⟩:=Ki hids;obtain⟨hXl,hXg⟩:=JX hXs
 -- the ghosts that are handed over
 have hGl:∀i∈ids,i<G.length:=fun i hi=>by rw[hS.len];exact hlt i hi
 obtain⟨Gs,hGsl,hGs⟩:∃Gs:List Gh,Gs.length=ids.length/\∀(j i:Nat),ids[j]?=some i->Gs[j]?=G[i]?:=by
  refine⟨ids.map fun i=>G.getD i ⟨none,undef⟩,by simp,fun j i hj=>?_⟩;have:=hGl i (mem_of_getElem? hj);simp[hj,getElem?_eq_getElem this]
 have inv:∀{j:Nat} {g:Gh},Gs[j]?=some g->∃i,ids[j]?=some i/\G[i]?=some g:=by
  intro j g hg;have hj:=(List.getElem?_eq_some_iff.1 hg).1;rw[hGsl]at hj;exact⟨ids[j],getElem?_eq_getElem hj,by rw[<-hGs j _ (getElem?_eq_getElem hj)];exact hg⟩
 have hSs:St Kk Gs X w:=by
  refine⟨by rw[hGsl,hXl],hS.kb,fun j g b hg hb=>?_,fun j j' g g' b hg hg' hb hb'=>?_,fun j g x hg hx=>?_,hS.tb⟩
  .obtain⟨i,_,hi⟩:=inv hg
   exact hS.gb i g b hi hb
  .obtain⟨i,hij,hi⟩:=inv hg
   obtain⟨i',hij',hi'⟩:=inv hg';obtain rfl:=hS.inj i i' g g' b hi hi' hb hb';exact(getElem?_inj (List.getElem?_eq_some_iff.1 hij).1 hnd).1 (hij.trans hij'.symm)
  .obtain⟨i,hij,hi⟩:=inv hg
   obtain⟨x',hx',hrn⟩:=hXg j i hij
   rw[hx]at hx';cases hx'
   have hil:=hlt i (mem_of_getElem? hij)
   have hoi:H[i]?=some (eT H i)∨eT H i=.gone:=by
    rcases Classical.em (eT H i=.gone)with e|e
    .exact .inr e
    .exact .inl (zP rfl e)
   rcases hoi with hoi|hoi
   .exact DG (fun j o h=>hGs j o h) hrn (hS.ob i g _ hi hoi)
   .rw[hoi]at hrn;simp only[pC]at hrn;cases hrn;trivial
 have hall:=lJ (fun j o h=>hGs j o h) hp (hargs.append hcv);unfold Oper.wp;rw[E9 e1 e3 hcs hs.1];simp only[Oper.upon];refine(hs.2 Kk Gs w _ hSs hall).mono ?_;rintro e w' ⟨c',r,X',K1,G1,rfl,hpost,hX1,hS1,hv,hkp1⟩
 have hGl1:ids.length<=G1.length:=by rw[<-hGsl];exact hX1.glen
 have hXl1:ids.length<=X'.length:=by rw[<-hS1.len];exact hGl1
 let G2:=fE G ids G1
 -- how the ghosts lie in the new list
 have g2new:∀(j:Nat) (g:Gh),G1[j]?=some g->G2[jU ids H.length j]?=some g:=by
  intro j g hg
  rcases Nat.lt_or_ge j ids.length with h|h
  .rw[uL (getElem?_eq_getElem h)]
   show(fE G ids G1)[_]?=_
   rw[EX hnd hGl hGl1 (getElem?_eq_getElem h)];exact hg
  .rw[xo h,<-hS.len]
   show(fE G ids G1)[_]?=_
   rw[LI h];exact hg
 have g2cases:∀{o:Nat} {g:Gh},G2[o]?=some g->(∃j:Nat,ids[j]?=some o/\G1[j]?=some g)∨(o∉ids/\o<G.length/\G[o]?=some g)∨(∃j:Nat,ids.length<=j/\o=G.length+(j-ids.length)/\G1[j]?=some g):=fun h=>ME hnd hGl hGl1 h
 have old:∀{j i:Nat} {g:Gh} {b:Nat},ids[j]?=some i->G1[j]?=some g->g.blk=some b->(∃g0,G[i]?=some g0/\g0.blk=some b)∨w.heap.size<=b:=by
  intro j i g b hj hg hb;have hjl:=(List.getElem?_eq_some_iff.1 hj).1;have hgs:Gs[j]?=some Gs[j]:=getElem?_eq_getElem (by rw[hGsl];exact hjl)
  rcases hX1.gold j _ g b hgs hg hb with h|h
  .exact .inl ⟨_,by rw[<-hGs j i hj];exact hgs,h⟩
  .exact .inr h
 have fr:∀b,b<w.heap.size->(∀(o:Nat) (g:Gh),o∈ids->G[o]?=some g->g.blk≠some b)->w'.heap[b]?=w.heap[b]?:=fun b hb hn=>hX1.frame b hb fun j g hg=>by
  obtain⟨i,hij,hi⟩:=inv hg;exact hn i g (mem_of_getElem? hij) hi
 have hMk:Mn Kk K1 w.heap w'.heap:=⟨hX1.k,fun b hb=>fr b (hS.kb b hb) fun o g _ hg e=>(hS.gb o g b hg e).2 hb⟩
 have same:∀{j i:Nat},ids[j]?=some i->(eT H i).kept=true->G1[j]?=G[i]?:=by
  intro j i hj hkt;obtain⟨x,hx,hrn⟩:=hXg j i hj;have hk:eR (kinds X) j=true:=nU hx (by rw[nf hrn];exact hkt);have hjl:=(List.getElem?_eq_some_iff.1 hj).1;have hgs:Gs[j]?=some Gs[j]:=getElem?_eq_getElem (by rw[hGsl];exact hjl);rw[hX1.gsame j _ hk hgs,<-hGs j i hj,hgs]
 have hMg:Mg (gD ids H) G G2:=by
  intro o g ho hg;have hol:=(List.getElem?_eq_some_iff.1 hg).1
  by_cases hin:o∈ids
  .obtain⟨j,hj⟩:=getElem?_of_mem hin
   show(fE G ids G1)[o]?=_
   rw[EX hnd hGl hGl1 hj,same hj ?_]
   .exact hg
   .simpa [gD,hin]using ho
  .show(fE G ids G1)[o]?=_
   rw[EY hin hol];exact hg
 let H2:=fE (ix (gD ids H) H) ids (hO ids H.length X')
 have hHl:∀i∈ids,i<(ix (gD ids H) H).length:=fun i hi=>by rw[uU,length_map];exact hlt i hi
 have hS2:St K1 G2 H2 w':=by
  refine⟨?_,hS1.kb,fun o g b hg hb=>?_,fun o o' g g' b hg hg' hb hb'=>?_,fun o g x hg hx=>?_,hS1.tb⟩
  .show(fE G ids G1).length=(fE (ix (gD ids H) H) ids (hO ids H.length X')).length
   rw[Fk hGl1,Fk (by rw[uX];exact hXl1),uU,length_map,uX,hS.len,hS1.len]
  .rcases g2cases hg with⟨j,_,h⟩|⟨ho,hol,h⟩|⟨j,_,_,h⟩
   .exact hS1.gb j g b h hb
   .have:=hS.gb o g b h hb
    refine⟨Nat.lt_of_lt_of_le this.1 hX1.size,fun hk=>?_⟩
    rcases hX1.knew b hk with h'|h'
    .exact this.2 h'
    .omega
   .exact hS1.gb j g b h hb
  .have sep:∀{o o':Nat} {g g':Gh} {b j:Nat},o∉ids->G[o]?=some g->g.blk=some b->G1[j]?=some g'->g'.blk=some b->((∃i,ids[j]?=some i)∨ids.length<=j)->False:=by
    intro o o' g g' b j ho h hb h' hb' hj;have hbs:=(hS.gb o g b h hb).1
    rcases hj with⟨i,hj⟩|hj
    .rcases old hj h' hb' with⟨g0,h0,hb0⟩|h0
     .have:=hS.inj o i g g0 b h h0 hb hb0
      subst this;exact ho (mem_of_getElem? hj)
     .omega
    .have:=hX1.gnew j g' b (by rw[hGsl];exact hj) h' hb'
     omega
   rcases g2cases hg with⟨j,hj,h⟩|⟨ho,hol,h⟩|⟨j,hj,ho,h⟩ <;> rcases g2cases hg' with⟨j',hj',h'⟩|⟨ho',hol',h'⟩|⟨j',hj',ho',h'⟩
   .obtain rfl:=hS1.inj j j' g g' b h h' hb hb'
    rw[hj]at hj';cases hj';rfl
   .exact(sep (o':=0) ho' h' hb' h hb (.inl ⟨_,hj⟩)).elim
   .obtain rfl:=hS1.inj j j' g g' b h h' hb hb'
    have:=(List.getElem?_eq_some_iff.1 hj).1;omega
   .exact(sep (o':=0) ho h hb h' hb' (.inl ⟨_,hj'⟩)).elim
   .exact hS.inj o o' g g' b h h' hb hb'
   .exact(sep (o':=0) ho h hb h' hb' (.inr hj')).elim
   .obtain rfl:=hS1.inj j j' g g' b h h' hb hb'
    have:=(List.getElem?_eq_some_iff.1 hj').1;omega
   .exact(sep (o':=0) ho' h' hb' h hb (.inr hj)).elim
   .obtain rfl:=hS1.inj j j' g g' b h h' hb hb'
    omega
  .have hcx:=ME hnd hHl (by rw[uX];exact hXl1) hx
   have hlenE:(ix (gD ids H) H).length=G.length:=by rw[uU,length_map,hS.len]
   have new:∀{j:Nat},G1[j]?=some g->(hO ids H.length X')[j]?=some x->ObR K1 w'.heap G2 g x:=by
    intro j h1 h2;rw[GF]at h2
    cases hy:X'[j]? with
    |none=>rw[hy]at h2;cases h2
    |some y =>
     rw[hy]at h2;simp at h2;subst h2;exact Ey g2new (hS1.ob j g y h1 hy)
   rcases g2cases hg with⟨j,hj,h⟩|⟨ho,hol,h⟩|⟨j,hj,ho,h⟩
   .rcases hcx with⟨j',hj',h'⟩|⟨ho',_,_⟩|⟨j',hj',ho',h'⟩
    .have:=(getElem?_inj (List.getElem?_eq_some_iff.1 hj).1 hnd).1 (hj.trans hj'.symm)
     subst this;exact new h h'
    .exact absurd (mem_of_getElem? hj) ho'
    .have:=hGl o (mem_of_getElem? hj)
     omega
   .rcases hcx with⟨j',hj',h'⟩|⟨ho',_,h'⟩|⟨j',hj',ho',h'⟩
    .exact absurd (mem_of_getElem? hj') ho
    .rw[uU,getElem?_map]at h'
     cases hy:H[o]? with
     |none=>rw[hy]at h';cases h'
     |some y =>
      rw[hy]at h';simp at h';subst h';refine ObR.prune hMk hMg (fun b hb=>fr b (hS.gb o g b h hb).1 fun i g' hi hg' e=>?_) (hS.ob o g y h hy);have:=hS.inj o i g g' b h hg' hb e;subst this;exact ho hi
    .omega
   .rcases hcx with⟨j',hj',h'⟩|⟨ho',hol',_⟩|⟨j',hj',ho',h'⟩
    .have:=hlt o (mem_of_getElem? hj')
     rw[<-hS.len]at this;omega
    .omega
    .have:j=j':=by omega
     subst this;exact new h h'
 have hX2:Ext (eR kl) B.K0 B.G0 B.w0 K1 G2 w':=by
  refine hX.trans ⟨hX1.os,hX1.tape,hX1.output,hX1.size,hX1.k,hX1.knew,?_,fun o g0 g b h0 hg hb=>?_,fun o g b ho hg hb=>?_,fun o g0 ho h0=>?_,fun b hb hn=>fr b hb fun o g _ hg=>hn o g hg⟩
  .show G.length<=(fE G ids G1).length
   rw[Fk hGl1];omega
  .rcases g2cases hg with⟨j,hj,h⟩|⟨_,_,h⟩|⟨j,hj,ho,h⟩
   .rcases old hj h hb with⟨g0',h0',hb0⟩|h'
    .rw[h0]at h0';cases h0';exact .inl hb0
    .exact .inr h'
   .rw[h0]at h;cases h;exact .inl hb
   .have:=(List.getElem?_eq_some_iff.1 h0).1
    omega
  .rcases g2cases hg with⟨j,hj,h⟩|⟨_,hol,h⟩|⟨j,hj,_,h⟩
   .have:=hGl o (mem_of_getElem? hj)
    omega
   .omega
   .exact hX1.gnew j g b (by rw[hGsl];exact hj) h hb
  .refine hMg o g0 ?_ h0
   obtain⟨x,hx,hkt⟩:=hkp o ho
   have:(eT H o).kept=true:=by rw[Gc hx];exact hkt
   simp[gD,this]
 have hRV:RelV (cx P kl n B) (jP (gD ids H) E) H2 c' (fi ids H.length r) a w':=by
  refine⟨K1,G2,hX2,hS2,fun m=>by rw[CL];exact VR.prune hMk hMg _ _ (hE m),hdf,hn,fun o ho=>?_,xm g2new hv⟩;obtain⟨x,hx,hkt⟩:=hkp o ho;have hol:=(List.getElem?_eq_some_iff.1 hx).1
  by_cases hin:o∈ids
  .obtain⟨j,hj⟩:=getElem?_of_mem hin
   obtain⟨y,hy,hrn⟩:=hXg j o hj;have hk:eR (kinds X) j=true:=nU hy (by rw[nf hrn,Gc hx];exact hkt);obtain⟨y',hy',hkt'⟩:=hkp1 j hk;refine⟨Cc ids H.length y',?_,by rw[xn];exact hkt'⟩
   show(fE _ ids _)[o]?=_
   rw[EX hnd hHl (by rw[uX];exact hXl1) hj,GF,hy'];rfl
  .refine⟨x.prune (gD ids H),?_,by cases x <;> first|rfl|cases hkt⟩
   show(fE _ ids _)[o]?=_
   rw[EY hin (by rw[uU,length_map];exact hol),uU,getElem?_map,hx];rfl
 exact hK' c' r X' w' hpost hv.ok hRV
theorem ek{o:Oper}{l:List Oper}{f:FuncId}{av args:List Va}{X:List Ob}{Post:Va->List Ob->Prop}(ids:List Nat)(hs:Does P f args X Post)(ha:Is (Be E o) (some (f,av)))(hp:Is (lc ids av) (some args))(hXs:Is (jW ids H ids) (some X))(hids:lf H.length ids=true)(hok:iT n true E o)
  (cont:∀r X',Post r X'->r.ok->fO P kl n B ops K (fB P kl n ops.toList l ⟨eU (jP (gD ids H) E) o.dst (fi ids H.length r),fE (ix (gD ids H) H) ids (hO ids H.length X'),True⟩)):Rg P kl n B ops (o::l) E H K:=by
 obtain⟨c,fop,caps,e1,e2,e3,e4,rfl⟩:=PD ha;obtain⟨hd,hk⟩:=ux hok e1 e3;intro hB a w Q hR hKK
 refine wpList_plain e2 fun K' hK'=>?_
 exact EU ids hs e1 e3 hk e4 hp hXs hids hR fun c' r X' w' h1 h2 h3=>hK' _ _ (Rg.run (cont r X' h1 h2) hB _ _ _ (h3.put o.dst (zX hd)) hKK)
end
mutual
def kN(o:Nat)(r:Nat×List (List Dt)):Va->Va
 |.buf i=>if i=o then .p (.l r.2)else .buf i
 |.el i s j a=>if i=o then .top else .el i s j a
 |.ptr i a=>if i=o then .top else .ptr i a
 |.cs i a=>if i=o then .top else .cs i a
 |.mp i=>if i=o then .top else .mp i
 |.np i=>if i=o then .top else .np i
 |.sd i=>if i=o then .top else .sd i
 |.vw i s j n=>if i=o then(if s=r.1 then .p (.l ((r.2.drop j).take n))else .top)else .vw i s j n
 |.bufc i s=>if i=o then .top else .bufc i s
 |.fn f vs=>.fn f (l6 o r vs)
 |.agg vs=>.agg (l6 o r vs)
 |.tup vs=>.tup (l6 o r vs)
 |.cnd c v=>if v.all (· != o)then .cnd c v else .top
 |v=>v
def l6(o:Nat)(r:Nat×List (List Dt)):List Va->List Va
 |[]=>[]
 |v::vs=>kN o r v::l6 o r vs
end
def tt(o:Nat)(r:Nat×List (List Dt)):eC->eC
 |[]=>[]
 |(k,v)::E=>(k,kN o r v)::tt o r E
def wx(o:Nat)(r:Nat×List (List Dt)):Ob->Ob
 |.cells T vs=>.cells T (l6 o r vs)
 |.it i cl s=>if i=o then .gone else .it i cl s
 |x=>x
def l7(o:Nat)(r:Nat×List (List Dt)):List Ob->List Ob
 |[]=>[]
 |x::H=>wx o r x::l7 o r H
theorem od(o:Nat)(r:Nat×List (List Dt)):∀(E:eC) (m:Nat),fa (tt o r E) m=kN o r (fa E m)
 |[],m=>by simp[tt,fa,kN]
 |(k,v)::E,m=>by
  simp only[tt,fa];split
  .rfl
  .exact od o r E m
theorem LQ(o:Nat)(r:Nat×List (List Dt)):∀(H:List Ob) (m:Nat),(l7 o r H)[m]?=(H[m]?).map (wx o r)
 |[],m=>by simp[l7]
 |x::H,0=>by simp[l7]
 |x::H,m+1=>by simp only[l7,getElem?_cons_succ];exact LQ o r H m
theorem MS(o:Nat)(r:Nat×List (List Dt)):∀H:List Ob,(l7 o r H).length=H.length
 |[]=>rfl
 |x::H=>by simp[l7,MS o r H]
theorem Mk{K:Nat->Prop}{h:Array Obj}{sz:Nat}:∀{a:Nat} {xs:List Value} {rs:List (List Dt)},DRss K h sz xs rs->DRss K h sz (xs.drop (a*sz)) (rs.drop a)
 |0,_,_,hd=>by simpa using hd
 |a+1,xs,[],hd=>by simp only[DRss]at hd;subst hd;simp[DRss]
 |a+1,xs,r::rs,hd=>by
  simp only[DRss]at hd;obtain⟨u,v,rfl,h1,h2,h3⟩:=hd;have hl:=h2.length;rw[drop_succ_cons,Nat.add_mul,Nat.one_mul,Nat.add_comm,<-drop_drop,show sz=u.length by rw[hl,h1],drop_left];have:=Mk (a:=a) h3
  rwa [show u.length=sz by rw[hl,h1]]
theorem la{K:Nat->Prop}{h:Array Obj}{sz:Nat}:∀{n:Nat} {xs:List Value} {rs:List (List Dt)},DRss K h sz xs rs->DRss K h sz (xs.take ((rs.take n).length*sz)) (rs.take n)
 |0,_,_,hd=>by simp[DRss]
 |n+1,xs,[],hd=>by simp[DRss]
 |n+1,xs,r::rs,hd=>by
  simp only[DRss]at hd;obtain⟨u,v,rfl,h1,h2,h3⟩:=hd;have hl:=h2.length;simp only[take_succ_cons,length_cons,DRss];refine⟨u,v.take ((rs.take n).length*sz),?_,h1,h2,la h3⟩;rw[Nat.add_mul,Nat.one_mul,Nat.add_comm,take_append,take_of_length_le (by omega)]
  congr 2
  omega
theorem C6{K:Nat->Prop}{h:Array Obj}{c:Value}{blk:Option Nat}{ad:Option Addr}{N cap sz a n:Nat}{r:List (List Dt)}(hd:DR K h (.slice ad N cap) (.l r))(hz:∀x∈r,x.length=sz)(hv:NF c blk ad N cap sz a n):DR K h c (.l ((r.drop a).take n)):=by
 obtain⟨hle,ad',cap',rfl,hcap,hcc,hpos⟩:=hv;simp only[DR]at hd|-
 rcases hd with⟨⟨_,h0⟩,rfl⟩|⟨b,off,cp,cs,T,fr,sz',vs,h1,h2,h3,h4,h5,h6,h7⟩
 .cases h0
  obtain rfl:n=0:=by omega
  obtain rfl:a=0:=by omega
  obtain rfl:cap'=0:=by omega
  exact .inl ⟨⟨ad',rfl⟩,by simp⟩
 .cases h1
  rcases Nat.eq_zero_or_pos cap' with rfl|hn
  .obtain rfl:n=0:=by omega
   exact .inl ⟨⟨ad',rfl⟩,by simp⟩
  .obtain⟨b',_,hb,rfl⟩:=hpos hn
   have hbo:b=b'/\off=0:=by injection hb with hb;injection hb with e1 e2 _;exact⟨e1,e2⟩
   obtain⟨rfl,rfl⟩:=hbo
   have hsz:r=[]∨sz'=sz:=by
    cases r with
    |nil=>exact .inl rfl
    |cons x r =>
     simp only[DRss]at h7;obtain⟨_,_,_,h8,_⟩:=h7;exact .inr (by rw[<-h8];exact hz x (by simp))
   rcases hsz with rfl|rfl
   .obtain rfl:n=0:=by simp at hle;omega
    exact .inr ⟨b,a*sz,cap',cs,T,fr,sz',[],by simp,h2,h3,by simp,by simp,by simp,by simp[DRss]⟩
   have hlen:((r.drop a).take n).length=n:=by rw[length_take,length_drop];omega
   refine .inr ⟨b,a*sz',cap',cs,T,fr,sz',(vs.drop (a*sz')).take (n*sz'),by rw[hlen],h2,h3,by omega,by omega,fun j v hj=>?_,?_⟩
   .rw[getElem?_take]at hj
    split at hj
    .rw[getElem?_drop]at hj
     have:=h6 _ _ hj
     rwa [Nat.zero_add]at this
    .cases hj
   .have:=la (n:=n) (Mk (a:=a) h7)
    rwa [hlen]at this
section
variable {K K':Nat->Prop} {h:Array Obj} {G G':List Gh} {o:Nat} {r:Nat×List (List Dt)}
mutual
theorem ww(hM:∀b,K b->K' b)(hG:Mg (· != o) G G')(ho:∀g,G[o]?=some g->DR K' h g.sv (.l r.2))(hz:∀x∈r.2,x.length=r.1):∀{c:Value} {v:Va},VR K h G c v->VR K' h G' c (kN o r v)
 |c,.p x,hv=>VR.keep (f:=(· != o)) ⟨hM,fun _ _=>rfl⟩ hG c (.p x) rfl hv
 |c,.nils,hv=>VR.keep (f:=(· != o)) ⟨hM,fun _ _=>rfl⟩ hG c .nils rfl hv
 |c,.full rows,hv=>VR.keep (f:=(· != o)) ⟨hM,fun _ _=>rfl⟩ hG c (.full rows) rfl hv
 |c,.rp row,hv=>VR.keep (f:=(· != o)) ⟨hM,fun _ _=>rfl⟩ hG c (.rp row) rfl hv
 |c,.nil,hv=>VR.keep (f:=(· != o)) ⟨hM,fun _ _=>rfl⟩ hG c .nil rfl hv
 |c,.raw v,hv=>VR.keep (f:=(· != o)) ⟨hM,fun _ _=>rfl⟩ hG c (.raw v) rfl hv
 |c,.er v,hv=>VR.keep (f:=(· != o)) ⟨hM,fun _ _=>rfl⟩ hG c (.er v) rfl hv
 |c,.top,_=>by simp[kN,VR]
 |c,.buf i,hv=>by
  simp only[kN];split
  .rename_i e
   subst e;simp only[VR]at *;obtain⟨g,hg,rfl,_⟩:=hv;exact ho g hg
  .rename_i e
   exact VR.keep (f:=(· != o)) ⟨hM,fun _ _=>rfl⟩ hG c (.buf i) (by simpa [Va.all]using e) hv
 |c,.el i s j a,hv=>by
  simp only[kN];split
  .simp[VR]
  .rename_i e
   exact VR.keep (f:=(· != o)) ⟨hM,fun _ _=>rfl⟩ hG c (.el i s j a) (by simpa [Va.all]using e) hv
 |c,.ptr i a,hv=>by
  simp only[kN];split
  .simp[VR]
  .rename_i e
   exact VR.keep (f:=(· != o)) ⟨hM,fun _ _=>rfl⟩ hG c (.ptr i a) (by simpa [Va.all]using e) hv
 |c,.cs i a,hv=>by
  simp only[kN];split
  .simp[VR]
  .rename_i e
   exact VR.keep (f:=(· != o)) ⟨hM,fun _ _=>rfl⟩ hG c (.cs i a) (by simpa [Va.all]using e) hv
 |c,.mp i,hv=>by
  simp only[kN];split
  .simp[VR]
  .rename_i e
   exact VR.keep (f:=(· != o)) ⟨hM,fun _ _=>rfl⟩ hG c (.mp i) (by simpa [Va.all]using e) hv
 |c,.np i,hv=>by
  simp only[kN];split
  .simp[VR]
  .rename_i e
   exact VR.keep (f:=(· != o)) ⟨hM,fun _ _=>rfl⟩ hG c (.np i) (by simpa [Va.all]using e) hv
 |c,.sd i,hv=>by
  simp only[kN];split
  .simp[VR]
  .rename_i e
   exact VR.keep (f:=(· != o)) ⟨hM,fun _ _=>rfl⟩ hG c (.sd i) (by simpa [Va.all]using e) hv
 |c,.vw i s j n,hv=>by
  simp only[kN];split
  .rename_i e
   subst e;split
   .rename_i e2
    subst e2;simp only[VR]at hv|-;obtain⟨g,ad,N,cap,hg,hsv,hvw⟩:=hv;exact C6 (hsv ▸ ho g hg) hz hvw
   .simp[VR]
  .rename_i e
   exact VR.keep (f:=(· != o)) ⟨hM,fun _ _=>rfl⟩ hG c (.vw i s j n) (by simpa [Va.all]using e) hv
 |c,.bufc i s,hv=>by
  simp only[kN];split
  .simp[VR]
  .rename_i e
   exact VR.keep (f:=(· != o)) ⟨hM,fun _ _=>rfl⟩ hG c (.bufc i s) (by simpa [Va.all]using e) hv
 |c,.fn f vs,hv=>by simp only[kN,VR]at *;obtain⟨cs,h1,h2⟩:=hv;exact⟨cs,h1,F8 hM hG ho hz h2⟩
 |c,.agg vs,hv=>by simp only[kN,VR]at *;obtain⟨cs,h1,h2⟩:=hv;exact⟨cs,h1,F8 hM hG ho hz h2⟩
 |c,.tup vs,hv=>by simp only[kN,VR]at *;obtain⟨cs,h1,h2⟩:=hv;exact⟨cs,h1,F8 hM hG ho hz h2⟩
 |c,.cnd b v,hv=>by
  simp only[kN];split
  .rename_i e
   exact VR.keep (f:=(· != o)) ⟨hM,fun _ _=>rfl⟩ hG c (.cnd b v) (by simpa only[Va.all]using e) hv
  .simp[VR]
theorem F8(hM:∀b,K b->K' b)(hG:Mg (· != o) G G')(ho:∀g,G[o]?=some g->DR K' h g.sv (.l r.2))(hz:∀x∈r.2,x.length=r.1):∀{cs:List Value} {vs:List Va},VRs K h G cs vs->VRs K' h G' cs (l6 o r vs)
 |cs,[],hv=>by simpa only[l6,VRs]using hv
 |cs,v::vs,hv=>by
  simp only[l6,VRs]at *;obtain⟨c,cs',e1,e2,e3⟩:=hv;exact⟨c,cs',e1,ww hM hG ho hz e2,F8 hM hG ho hz e3⟩
end
end
section
variable {P:Program} {kl:List Bool} {n:Nat} {B:Bs} {Q:Qt} {E:eC} {H:List Ob}
theorem Wp.freeze{c:Code}(o:Nat){T:TypeId}{sz:Nat}{rows:List (List Dt)}(ho:Is (eT H o) (.buf T sz rows))(hk:kl.length<=o)(hc:Wp P kl n B c Q (tt o (sz,rows) E) ((l7 o (sz,rows) H).set o .gone)):Wp P kl n B c Q E H:=by
 intro hB a w hR;obtain⟨K,G,hX,hS,hE,hd,hn,hkp⟩:=hR;have hoH:=zP ho (by simp);obtain⟨g,hg,_⟩:=hS.ghost hoH;have hol:=(List.getElem?_eq_some_iff.1 hg).1
 let K':Nat->Prop:=fun b=>K b∨g.blk=some b
 let G':=G.set o ⟨none,g.sv⟩
 have hM:∀b,K b->K' b:=fun _ h=>.inl h
 have hMg:Mg (· != o) G G':=fun i g' hi hg'=>by
  show(G.set o _)[i]?=_
  rw[getElem?_set_ne (by simpa using Ne.symm (by simpa using hi))];exact hg'
 have hdr:∀g',G[o]?=some g'->DR K' w.heap g'.sv (.l rows):=fun g' hg'=>by
  rw[hg]at hg';cases hg'
  exact mj hS hoH hg hM fun b hb=>.inr hb
 have hzz:∀x∈(sz,rows).2,x.length=(sz,rows).1:=by
  obtain⟨_,xs,hxs,_⟩:=hS.ob o g _ hg hoH;exact Lx hxs
 have get':∀{i:Nat} {g':Gh},G'[i]?=some g'->(i=o/\g'=⟨none,g.sv⟩)∨(i≠o/\G[i]?=some g'):=by
  intro i g' hg'
  by_cases e:i=o
  .subst e
   rw[show G'[i]?=some ⟨none,g.sv⟩from getElem?_set_self hol]at hg'
   cases hg';exact .inl ⟨rfl,rfl⟩
  .rw[show G'[i]?=G[i]? from getElem?_set_ne (Ne.symm e)]at hg'
   exact .inr ⟨e,hg'⟩
 have hG0:B.G0.length<=o:=by rw[hB];exact hk
 refine hc hB a w ⟨K',G',{ hX with k:=fun b hb=>.inl (hX.k b hb),knew:=fun b hb=>?_,glen:=?_,gold:=fun i g0 g' b h0 hg' hb=>?_,gnew:=fun i g' b hi hg' hb=>?_,gsame:=fun i g0 hi h0=>?_ },⟨?_,fun b hb=>?_,fun i g' b hg' hb=>?_,fun i j g' g'' b hg' hg'' hb hb'=>?_,fun i g' y hg' hy=>?_,hS.tb.mono ⟨fun _ h=>.inl h,fun _ _=>rfl⟩⟩,fun m=>?_,hd,hn,fun i hi=>?_⟩
 .rcases hb with hb|hb
  .exact hX.knew b hb
  .exact .inr (hX.gnew o g b hG0 hg hb)
 .show B.G0.length<=(G.set o _).length
  rw[length_set];exact hX.glen
 .rcases get' hg' with⟨_,rfl⟩|⟨_,h⟩
  .cases hb
  .exact hX.gold i g0 g' b h0 h hb
 .rcases get' hg' with⟨_,rfl⟩|⟨_,h⟩
  .cases hb
  .exact hX.gnew i g' b hi h hb
 .have h1:=hX.gsame i g0 hi h0
  have h2:i<kl.length:=EJ hi
  show(G.set o _)[i]?=_
  rw[getElem?_set_ne (by omega)];exact h1
 .show(G.set o _).length=_
  rw[length_set,length_set,MS,hS.len]
 .rcases hb with hb|hb
  .exact hS.kb b hb
  .exact(hS.gb o g b hg hb).1
 .rcases get' hg' with⟨_,rfl⟩|⟨e,h⟩
  .cases hb
  .refine⟨(hS.gb i g' b h hb).1,fun hk'=>?_⟩
   rcases hk' with hk'|hk'
   .exact(hS.gb i g' b h hb).2 hk'
   .exact e (hS.inj i o g' g b h hg hb hk')
 .rcases get' hg' with⟨_,rfl⟩|⟨_,h⟩
  .cases hb
  .rcases get' hg'' with⟨_,rfl⟩|⟨_,h'⟩
   .cases hb'
   .exact hS.inj i j g' g'' b h h' hb hb'
 .rcases get' hg' with⟨rfl,rfl⟩|⟨e,h⟩
  .rw[getElem?_set_self (by rw[MS,<-hS.len];exact hol)]at hy
   cases hy;trivial
  .rw[getElem?_set_ne (Ne.symm e),LQ]at hy
   cases hx:H[i]? with
   |none=>rw[hx]at hy;cases hy
   |some x =>
    rw[hx]at hy;simp at hy;subst hy;have hob:=hS.ob i g' x h hx
    cases x with
    |cells T vs =>
     obtain⟨b,cs,h1,h2,h3⟩:=hob;exact⟨b,cs,h1,h2,F8 hM hMg hdr hzz h3⟩
    |buf T' sz' rows'=>exact ObR.keep ⟨hM,fun _ _=>rfl⟩ (Mg.refl (fun _=>true) G) (fun _ _=>rfl) rfl hob
    |fx T' sz' rows'=>exact ObR.keep ⟨hM,fun _ _=>rfl⟩ (Mg.refl (fun _=>true) G) (fun _ _=>rfl) rfl hob
    |sb T' bs=>exact ObR.keep ⟨hM,fun _ _=>rfl⟩ (Mg.refl (fun _=>true) G) (fun _ _=>rfl) rfl hob
    |mp ag es=>exact ObR.keep ⟨hM,fun _ _=>rfl⟩ (Mg.refl (fun _=>true) G) (fun _ _=>rfl) rfl hob
    |mpb ag es bs cl=>exact ObR.keep ⟨hM,fun _ _=>rfl⟩ (Mg.refl (fun _=>true) G) (fun _ _=>rfl) rfl hob
    |it q cl seen =>
     simp only[wx];split
     .trivial
     .rename_i e;exact ObR.keep ⟨hM,fun _ _=>rfl⟩ hMg (fun _ _=>rfl) (by simpa [Ob.all]using e) hob
    |gone=>trivial
 .rw[od]
  exact ww hM hMg hdr hzz (hE m)
 .obtain⟨x,hx,hkt⟩:=hkp i hi
  have h2:i<kl.length:=EJ hi;refine⟨wx o (sz,rows) x,?_,by cases x <;> first|rfl|cases hkt⟩;rw[getElem?_set_ne (by omega),LQ,hx];rfl
end
attribute [go_sem] qX fR iz iL lc pC jW jU fi jq Cc hO fE lf gD kN l6 tt wx l7
mutual
theorem Ex{ids:List Nat}{base:Nat}:∀{v u:Va},fR ids v=some u->fi ids base u=v
 |.ptr o a,u,h=>by
  simp only[fR]at h;split at h
  .rename_i j hj;cases h;simp only[fi,uL (lv hj)]
  .cases h
 |.cs o a,u,h=>by
  simp only[fR]at h;split at h
  .rename_i j hj;cases h;simp only[fi,uL (lv hj)]
  .cases h
 |.el o s i a,u,h=>by
  simp only[fR]at h;split at h
  .rename_i j hj;cases h;simp only[fi,uL (lv hj)]
  .cases h
 |.buf o,u,h=>by
  simp only[fR]at h;split at h
  .rename_i j hj;cases h;simp only[fi,uL (lv hj)]
  .cases h
 |.mp o,u,h=>by
  simp only[fR]at h;split at h
  .rename_i j hj;cases h;simp only[fi,uL (lv hj)]
  .cases h
 |.np o,u,h=>by
  simp only[fR]at h;split at h
  .rename_i j hj;cases h;simp only[fi,uL (lv hj)]
  .cases h
 |.sd o,u,h=>by
  simp only[fR]at h;split at h
  .rename_i j hj;cases h;simp only[fi,uL (lv hj)]
  .cases h
 |.vw o _ _ _,u,h=>by
  simp only[fR]at h;split at h
  .rename_i j hj;cases h;simp only[fi,uL (lv hj)]
  .cases h
 |.bufc o _,u,h=>by
  simp only[fR]at h;split at h
  .rename_i j hj;cases h;simp only[fi,uL (lv hj)]
  .cases h
 |.fn f vs,u,h=>by
  simp only[fR]at h;split at h
  .rename_i us hu;cases h;simp only[fi,Ge hu]
  .cases h
 |.agg vs,u,h=>by
  simp only[fR]at h;split at h
  .rename_i us hu;cases h;simp only[fi,Ge hu]
  .cases h
 |.tup vs,u,h=>by
  simp only[fR]at h;split at h
  .rename_i us hu;cases h;simp only[fi,Ge hu]
  .cases h
 |.cnd _ _,_,h=>by simp[fR]at h
 |.p x,u,h|.nils,u,h|.full x,u,h|.rp x,u,h|.nil,u,h|.raw x,u,h|.er x,u,h|.top,u,h=>by simp only[fR]at h;cases h;rfl
theorem Ge{ids:List Nat}{base:Nat}:∀{vs us:List Va},iz ids vs=some us->jq ids base us=vs
 |[],us,h=>by simp only[iz]at h;cases h;rfl
 |v::vs,us,h=>by
  simp only[iz]at h;split at h
  .rename_i u us' h1 h2
   cases h;simp only[jq,Ex h1,Ge h2]
  .cases h
end
theorem xl{ids:List Nat}{base:Nat}{x y:Ob}(h:pC ids x=some y):Cc ids base y=x:=by
 cases x with
 |cells T vs =>
  simp only[pC]at h;split at h
  .rename_i us hu;cases h;simp only[Cc,Ge hu]
  .cases h
 |it _ _ _=>simp[pC]at h
 |_=>simp only[pC]at h;cases h;rfl
mutual
theorem ON:∀v:Va,v.prune (fun _=>true)=v
 |.ptr _ _|.cs _ _|.el _ _ _ _|.buf _|.mp _|.np _|.sd _|.vw _ _ _ _|.bufc _ _=>by simp[Va.prune]
 |.fn f vs=>by simp only[Va.prune,Hx vs]
 |.agg vs=>by simp only[Va.prune,Hx vs]
 |.tup vs=>by simp only[Va.prune,Hx vs]
 |.cnd c v=>by simp only[Va.prune,Va.all_true,if_true]
 |.p _|.nils|.full _|.rp _|.nil|.raw _|.er _|.top=>rfl
theorem Hx:∀vs:List Va,dk (fun _=>true) vs=vs
 |[]=>rfl
 |v::vs=>by simp only[dk,ON v,Hx vs]
end
theorem MV:∀E:eC,jP (fun _=>true) E=E
 |[]=>rfl
 |(k,v)::E=>by simp only[jP,ON,MV E]
theorem MW:∀H:List Ob,ix (fun _=>true) H=H
 |[]=>rfl
 |x::H=>by simp only[ix,MW H];cases x <;> simp only[Ob.prune,Hx,if_true]
def uN(H:List Ob):List Nat->Bool
 |[]=>true
 |i::ids=>(eT H i).kept&&uN H ids
theorem Ow{H:List Ob}{ids:List Nat}(h:uN H ids=true):gD ids H=fun _=>true:=by
 funext o
 simp only[gD]
 by_cases ho:o∈ids
 .have:(eT H o).kept=true:=by
   induction ids with
   |nil=>cases ho
   |cons i ids ih =>
    simp only[uN,Bool.and_eq_true]at h
    rcases mem_cons.1 ho with rfl|ho
    .exact h.1
    .exact ih h.2 ho
  simp[this]
 .simp[ho]
theorem vo{H X:List Ob}{ids:List Nat}{base:Nat}(hX:jW ids H ids=some X)(hids:lf H.length ids=true):fE H ids (hO ids base X)=H:=by
 obtain⟨hnd,hlt⟩:=Ki hids;obtain⟨hl,hg⟩:=JX hX;apply ext_getElem?;intro o
 by_cases ho:o∈ids
 .obtain⟨j,hj⟩:=getElem?_of_mem ho
  rw[EX hnd hlt (by rw[uX];omega) hj,GF];obtain⟨x,hx,hr⟩:=hg j o hj;rw[hx];simp only[Option.map_some,xl hr];have hol:=hlt o ho;rw[getElem?_eq_getElem hol,Gc (getElem?_eq_getElem hol)]
 .rcases Nat.lt_or_ge o H.length with h|h
  .exact EY ho h
  .rw[getElem?_eq_none h,getElem?_eq_none]
   rw[Fk (by rw[uX];omega),uX];omega
section
variable {P:Program} {kl:List Bool} {n:Nat} {B:Bs} {K:eC->List Ob->Prop} {E:eC} {H:List Ob}
theorem J5{o:Oper}{c:Call}{fop:Operand}{f:FuncId}{caps args:List Va}{X:List Ob}{v:Va}(ids:List Nat)(hs:Does P f args X fun r X'=>r=v/\X'=X)(ho:o.op=.call c)(hc:c.callee=.value fop)(hok:opOk true E fop/\allOk true E c.args.toList)(hf:opnd E fop=.fn f caps)
  (hp:lc ids (opnds E c.args.toList++caps)=some args) (hXs:jW ids H ids=some X) (hids:lf H.length ids=true) (hkp:uN H ids=true) {a:Act} {w:World} {Q:Exit->Act->World->Prop} {K':Act->World->Prop} (hR:Rel (cx P kl n B) E H a w)
  (hK':∀c' w',v.ok->RelV (cx P kl n B) E H c' (fi ids H.length v) a w'->K' (a.put o.dst c') w'):o.wp P a w K' Q:=by
 refine EU ids hs ho hc hok hf hp hXs hids hR fun c' r X' w' ⟨hr,hX⟩ hv hRV=>?_
 subst hr;subst hX
 rw[Ow hkp,MV,MW,vo hXs hids]at hRV;exact hK' c' w' hv hRV
theorem Rg.callR{ops:Array Oper}{o:Oper}{l:List Oper}{f:FuncId}{av args:List Va}{X:List Ob}{g:Bool}{v:Va}(ids:List Nat)(hs:g=true->Does P f args X fun r X'=>r=v/\X'=X)(ha:Is (ig E o) (some (f,av)))(hb:Is (iU ops.toList E o) (some g))(hp:Is (lc ids av) (some args))(hXs:Is (jW ids H ids) (some X))(hids:lf H.length ids=true)(hkp:uN H ids=true)(hok:iT n g E o)
  (cont:fO P kl n B ops K (fB P kl n ops.toList l ⟨eU E o.dst (iI o.guard g (fi ids H.length v)),H,True⟩)):Rg P kl n B ops (o::l) E H K:=by
 unfold Is ig at ha;unfold Is iU at hb;split at ha
 rotate_left
 .cases ha
 rename_i c h1
 split at ha
 rotate_left
 .cases ha
 rename_i fop h3
 split at ha
 rotate_left
 .cases ha
 rename_i f' caps h4
 cases ha;obtain⟨hd,hk⟩:=ux hok h1 h3;have hrun:=Rg.run cont;intro hB a w Q hR hKK
 cases hg:o.guard with
 |none =>
  rw[hg]at hb;obtain rfl:true=g:=Option.some.inj hb
  refine wpList_plain hg fun K' hK'=>?_
  rw[yM hg]at hrun
  exact J5 ids (hs rfl) h1 h3 hk h4 hp hXs hids hkp hR fun c' w' _ hRV=>hK' _ _ (hrun hB _ _ _ (hRV.put o.dst (zX hd)) hKK)
 |some gw =>
  obtain⟨j,want⟩:=gw;rw[hg]at hb;have hw:=su hR hg hb;rw[uV hg]at hrun
  refine wpList_step fun K' hK'=>?_
  cases g with
  |true =>
   rw[if_pos hw]
   exact J5 ids (hs rfl) h1 h3 hk h4 hp hXs hids hkp hR fun c' w' _ hRV=>hK' _ _ (hrun hB _ _ _ (RelV.put (v:=.cnd true _) (by
    obtain⟨Kk,G,q1,q2,q3,q4,q5,q6,q7⟩:=hRV
    exact⟨Kk,G,q1,q2,q3,q4,q5,q6,by simp only[VR];exact⟨fun _=>q7,fun e=>Bool.noConfusion e⟩⟩) o.dst (zX hd)) hKK)
  |false =>
   rw[if_neg (by rw[hw];simp)];obtain⟨Kk,G,hX,hS,hE,hdf,hn,hkp'⟩:=hR;exact hK' _ _ (hrun hB _ _ _ (RelV.put (C:=cx P kl n B) (v:=.cnd false _) ⟨Kk,G,hX,hS,hE,hdf,hn,hkp',by simp[VR]⟩ o.dst (zX hd)) hKK)
end
section
variable {P:Program} {kl:List Bool} {n:Nat} {B:Bs} {ops:List Oper} {K:eC->List Ob->Prop} {l:Plan} {obs:List En} {E:eC} {H:List Ob}
theorem eu{k:Nat}{L:List Nat}{f:FuncId}{av args:List Va}{X Y:List Ob}{o:Oper}{v:Va}(ids:List Nat)(hs:Does P f args X fun r X'=>r=v/\X'=Y)(hk:Is ops[k]? (some o))(hg:Is o.guard none)(ha:Is (ig E o) (some (f,av)))(hp:Is (lc ids av) (some args))(hXs:Is (jW ids H ids) (some X))(hids:lf H.length ids=true)(hkp:uN H ids=true)(hok:iT n true E o)
  (hag:ur L none (fE H ids (hO ids H.length Y)) obs)
  (cont:mz P kl n B ops.toArray K (hJ P kl n ops l ⟨obs,eU E o.dst (fi ids H.length v),fE H ids (hO ids H.length Y),True⟩)):Br P kl n B ops.toArray k L l obs E H K:=by
 unfold Is at *;unfold ig at ha;split at ha
 rotate_left
 .cases ha
 rename_i c h1
 split at ha
 rotate_left
 .cases ha
 rename_i fop h3
 split at ha
 rotate_left
 .cases ha
 rename_i f' caps h4
 cases ha;obtain⟨hd,hk1,hk2⟩:=ux hok h1 h3;have h':=Dr.run cont;simp only at h';rw[<-ln hk]at h';refine Br.eff (po:=none) (fun _=>?_) hag h';intro E' hE' a w Q K' hR hK;have hop:=yG (iE hk) hE';rw[h1]at hop;have hfo:eY E fop=eY E' fop:=hop fop (by simp[Op.operands,Call.operands,h3])
 have hag':Agree c.args.toList E E':=fun x hx=>hop x (by simp only[Op.operands,Call.operands,Array.toList_append,mem_append];exact .inr hx)
 rw[Agree.opOk hfo]at hk1;rw[Agree.allOk hag']at hk2;rw[Agree.opnd hfo]at h4;rw[Agree.opnds hag']at hp;rw[ln hk]at hK;unfold wpOp;simp only[iE hk];rw[if_pos (by simp[Region.wanted,hg])];refine .inl (EU ids hs h1 h3 ⟨hk1,hk2⟩ h4 hp hXs hids hR fun c' r X' w' ⟨hr,hX⟩ _ hRV=>?_)
 subst hr;subst hX
 rw[Ow hkp,MV,MW]at hRV;exact hK _ _ (hRV.put o.dst (zX hd))
theorem Br.callR{k:Nat}{L:List Nat}{f:FuncId}{av args:List Va}{X:List Ob}{g:Bool}{o:Oper}{v:Va}(ids:List Nat)(hs:g=true->Does P f args X fun r X'=>r=v/\X'=X)(hk:Is ops[k]? (some o))(ha:Is (ig E o) (some (f,av)))(hb:Is (iU ops E o) (some g))(hp:Is (lc ids av) (some args))(hXs:Is (jW ids H ids) (some X))(hids:lf H.length ids=true)(hkp:uN H ids=true)(hok:iT n g E o)
  (hag:ur L none H obs)
  (cont:mz P kl n B ops.toArray K (hJ P kl n ops l ⟨obs,eU E o.dst (iI o.guard g (fi ids H.length v)),H,True⟩)):Br P kl n B ops.toArray k L l obs E H K:=by
 unfold Is at *;unfold ig at ha;split at ha
 rotate_left
 .cases ha
 rename_i c h1
 split at ha
 rotate_left
 .cases ha
 rename_i fop h3
 split at ha
 rotate_left
 .cases ha
 rename_i f' caps h4
 cases ha;obtain⟨hd,hk1,hk2⟩:=ux hok h1 h3;have h':=Dr.run cont;simp only at h';rw[<-ln hk]at h';refine Br.eff (po:=none) (fun _=>?_) hag h';intro E' hE' a w Q K' hR hK;have hop:=yG (iE hk) hE';rw[h1]at hop;have hfo:eY E fop=eY E' fop:=hop fop (by simp[Op.operands,Call.operands,h3])
 have hag':Agree c.args.toList E E':=fun x hx=>hop x (by simp only[Op.operands,Call.operands,Array.toList_append,mem_append];exact .inr hx)
 rw[Agree.opOk hfo]at hk1;rw[Agree.allOk hag']at hk2;rw[Agree.opnd hfo]at h4;rw[Agree.opnds hag']at hp;rw[ln hk]at hK;unfold wpOp;simp only[iE hk];unfold iU at hb
 cases hgd:o.guard with
 |none =>
  rw[hgd]at hb hK;obtain rfl:true=g:=Option.some.inj hb;rw[if_pos (by simp[Region.wanted,hgd])];exact .inl (J5 ids (hs rfl) h1 h3 ⟨hk1,hk2⟩ h4 hp hXs hids hkp hR fun c' w' _ hRV=>hK _ _ (hRV.put o.dst (zX hd)))
 |some gw =>
  obtain⟨j,want⟩:=gw;rw[hgd]at hb hK
  have hb':jE ops.toArray.toList E j want=some g:=by simpa using hb
  rw[<-CS (iE hk) hgd hE']at hb';have hw:=su hR hgd hb'
  cases g with
  |true =>
   rw[if_pos hw]
   exact .inl (J5 ids (hs rfl) h1 h3 ⟨hk1,hk2⟩ h4 hp hXs hids hkp hR fun c' w' _ hRV=>hK _ _ (RelV.put (v:=.cnd true _) (by
    obtain⟨Kk,G,q1,q2,q3,q4,q5,q6,q7⟩:=hRV
    exact⟨Kk,G,q1,q2,q3,q4,q5,q6,by simp only[VR];exact⟨fun _=>q7,fun e=>Bool.noConfusion e⟩⟩) o.dst (zX hd)))
  |false =>
   rw[if_neg (by rw[hw];simp)];obtain⟨Kk,G,hX,hS,hE,hdf,hn,hkp'⟩:=hR;exact hK _ _ (RelV.put (C:=cx P kl n B) (v:=.cnd false _) ⟨Kk,G,hX,hS,hE,hdf,hn,hkp',by simp[VR]⟩ o.dst (zX hd))
end
attribute [go_sem] uN
section
variable {K V Z:Type} [DecidableEq K]
def zp:List (K×V)->K->Option V
 |[],_=>none
 |p::l,k=>bif decide (p.1=k)then some p.2 else zp l k
def eG:List (K×V)->K->V->List (K×V)
 |[],k,v=>[(k,v)]
 |p::l,k,v=>bif decide (p.1=k)then(k,v)::l else p::eG l k v
def gg:List (K×V)->K->List (K×V)
 |[],_=>[]
 |p::l,k=>bif decide (p.1=k)then l else p::gg l k
omit [DecidableEq K] in
def zm(kd:K->Dt)(e:V->List Dt)(l:List (K×V)):List (Dt×List Dt):=l.map fun p=>(kd p.1,e p.2)
def fc{A:Type}(a:A)(k:A->Option Z):Option Z:=k a
theorem zI{A:Type}{a:A}{k:A->Option Z}{z:Z}(h:fc a k=some z):∃x,a=x/\k x=some z:=⟨a,rfl,h⟩
variable {kd:K->Dt} {e:V->List Dt}
theorem Ma(hk:∀a b,fS (kd a) (kd b)=decide (a=b)):∀(l:List (K×V)) (k:K),j5 (zm kd e l) (kd k)=(zp l k).map e
 |[],_=>rfl
 |p::l,k=>by
  have ih:=Ma hk l k;simp only[zm]at ih;simp only[zm,map_cons,j5,zp,hk,ih]
  cases decide (p.1=k) <;> rfl
theorem mD(hk:∀a b,fS (kd a) (kd b)=decide (a=b)):∀(l:List (K×V)) (k:K) (v:V),iP (zm kd e l) (kd k) (e v)=zm kd e (eG l k v)
 |[],_,_=>rfl
 |p::l,k,v=>by
  have ih:=mD hk l k v;simp only[zm]at ih;simp only[zm,map_cons,iP,eG,hk,ih]
  cases decide (p.1=k) <;> rfl
theorem Bg(hk:∀a b,fS (kd a) (kd b)=decide (a=b)):∀(l:List (K×V)) (k:K),iO (zm kd e l) (kd k)=zm kd e (gg l k)
 |[],_=>rfl
 |p::l,k=>by
  have ih:=Bg hk l k;simp only[zm]at ih;simp only[zm,map_cons,iO,gg,hk,ih]
  cases decide (p.1=k) <;> rfl
theorem zw(hk:∀a b,fS (kd a) (kd b)=decide (a=b))(l:List (K×V))(k:K)(d:V):yo (zm kd e l) (kd k) (e d)=e ((zp l k).getD d):=by
 simp only[yo,Ma hk]
 cases zp l k <;> rfl
theorem zu(hk:∀a b,fS (kd a) (kd b)=decide (a=b))(l:List (K×V))(k:K):(j5 (zm kd e l) (kd k)).isSome=(zp l k).isSome:=by
 rw[Ma hk]
 cases zp l k <;> rfl
omit [DecidableEq K] in
theorem ou(l:List (K×V)):(zm kd e l).length=l.length:=by simp[zm]
end
theorem wG{K V:Type}(kd:K->Dt)(e:V->List Dt):zm kd e []=[]:=rfl
theorem zZ(a b:eA):fS (Dt.s a) (Dt.s b)=decide (a=b):=rfl
theorem QE(k:IntKind)(a b:Int):fS (Dt.i k a) (Dt.i k b)=decide (a=b):=rfl
theorem rj{V:Type}(e:V->List Dt):∀l:List (eA×V),jM (.tk .str) (zm Dt.s e l)=True
 |[]=>by simp only[zm,map_nil,jM]
 |p::l=>by
  have ih:=rj e l;simp only[zm]at ih;simp only[zm,map_cons,jM,lg,ih,and_self]
theorem rk{V:Type}(k:IntKind)(e:V->List Dt):∀l:List (Int×V),jM (.tk (.int k)) (zm (Dt.i k) e l)=True
 |[]=>by simp only[zm,map_nil,jM]
 |p::l=>by
  have ih:=rk k e l;simp only[zm]at ih;simp only[zm,map_cons,jM,lg,ih,and_self]
theorem rl{K V:Type}{kd:K->List Dt}{ks:List Kd}(h:∀x,zJ ks (kd x))(e:V->List Dt):∀l:List (K×V),jM (.ks ks) (zm (fun x=>Dt.a (kd x)) e l)=True
 |[]=>by simp only[zm,map_nil,jM]
 |p::l=>by
  have ih:=rl h e l;simp only[zm]at ih;simp only[zm,map_cons,jM,lg,ih,and_true,eq_true (h p.1)]
attribute [go_sem] wG rj rk ou
def Nv(P:Program)(f:FuncId)(args:List Va)(v:Va):Prop :=
 ∀K (w:World) vals,VRs K w.heap [] vals args->∃c,(callFunc f vals.toArray).run P w=.ok (.value c) w/\VR K w.heap [] c v
theorem OD{P:Program}{o:Oper}{c:Call}{fop:Operand}{f:FuncId}{cs:List Value}{a:Act}{w:World}(ho:o.op=.call c)(hc:c.callee=.value fop)(hf:a.eval fop=.func (.func f) #[] cs.toArray) :
  (execOp a.eval o).run P w=(callFunc f ((c.args.toList.map a.eval)++cs).toArray).run P w:=by
 obtain⟨callee,args,argTypes⟩:=c;obtain⟨dst,op,ty,pos,af,gd⟩:=o;cases ho;simp only at hc;subst hc
 have e:args.map a.eval=(args.toList.map a.eval).toArray:=by cases args;simp
 simp only[execOp,resolve,hf,Deferred.ofValue,Sem.run_bind,Sem.run_pure,Result.andThen_ok,invoke]
 congr 2
 simp
section
variable {P:Program} {kl:List Bool} {n:Nat} {B:Bs} {ops:Array Oper} {K:eC->List Ob->Prop} {E:eC} {H:List Ob}
theorem kB{o:Oper}{c:Call}{fop:Operand}{f:FuncId}{caps args:List Va}{v:Va}(hs:Nv P f args v)(ho:o.op=.call c)(hc:c.callee=.value fop)
  (hok:opOk true E fop/\allOk true E c.args.toList) (hf:opnd E fop=.fn f caps) (hp:jO H (opnds E c.args.toList++caps)=some args) (hflat:v.flat=true) {a:Act} {w:World} {Q:Exit->Act->World->Prop} {K':Act->World->Prop}
  (hR:Rel (cx P kl n B) E H a w) (hK:v.ok->∀c' w',RelV (cx P kl n B) E H c' v a w'->K' (a.put o.dst c') w'):o.wp P a w K' Q:=by
 obtain⟨Kk,G,hX,hS,hE,hdf,hn,hkp⟩:=hR;have hvf:=zD hE rfl fop hok.1;rw[hf]at hvf;simp only[VR]at hvf;obtain⟨cs,hcs,hcv⟩:=hvf;have hargs:=xT hE rfl c.args.toList hok.2;have hall:=yK hS hp (hargs.append hcv);obtain⟨c',hrun,hv⟩:=hs _ w _ hall;unfold Oper.wp;rw[OD ho hc hcs,hrun];simp only[Oper.upon];exact hK hv.ok c' w ⟨Kk,G,hX,hS,hE,hdf,hn,hkp,Gj hflat hv⟩
theorem dJ{o:Oper}{l:List Oper}{f:FuncId}{av args:List Va}{g:Bool}{v:Va}(hs:g=true->Nv P f args v)(ha:Is (ig E o) (some (f,av)))(hb:Is (iU ops.toList E o) (some g))(hp:Is (jO H av) (some args))(hok:iT n g E o)(hf:Is v.flat true)
  (cont:(g=true->v.ok)->fO P kl n B ops K (fB P kl n ops.toList l ⟨eU E o.dst (iI o.guard g v),H,True⟩)):Rg P kl n B ops (o::l) E H K:=by
 unfold Is ig at ha;unfold Is iU at hb;split at ha
 rotate_left
 .cases ha
 rename_i c h1
 split at ha
 rotate_left
 .cases ha
 rename_i fop h3
 split at ha
 rotate_left
 .cases ha
 rename_i f' caps h4
 cases ha;obtain⟨hd,hk⟩:=ux hok h1 h3
 cases hg:o.guard with
 |none =>
  rw[hg]at hb;obtain rfl:true=g:=Option.some.inj hb;intro hB a w Q hR hK
  refine wpList_plain hg fun K' hK'=>?_
  refine kB (hs rfl) h1 h3 hk h4 hp hf hR fun hvo c' w' hRV=>?_
  have c1:=cont fun _=>hvo
  rw[yM hg]at c1;exact hK' _ _ (Rg.run c1 hB _ _ _ (hRV.put o.dst (zX hd)) hK)
 |some gw =>
  obtain⟨j,want⟩:=gw;rw[hg]at hb;intro hB a w Q hR hK;have hw:=su hR hg hb
  refine wpList_step fun K' hK'=>?_
  cases g with
  |true =>
   rw[if_pos hw]
   refine kB (hs rfl) h1 h3 hk h4 hp hf hR fun hvo c' w' hRV=>?_
   have c1:=cont fun _=>hvo
   rw[uV hg]at c1
   have hRV:RelV (cx P kl n B) E H c' (.cnd true v) a w':=by
    obtain⟨Kk,G,hX,hS,hE,hdf,hn,hkp,hv⟩:=hRV;exact⟨Kk,G,hX,hS,hE,hdf,hn,hkp,by simp only[VR];exact⟨fun _=>hv,fun e=>Bool.noConfusion e⟩⟩
   exact hK' _ _ (Rg.run c1 hB _ _ _ (hRV.put o.dst (zX hd)) hK)
  |false =>
   rw[if_neg (by rw[hw];simp)];obtain⟨Kk,G,hX,hS,hE,hdf,hn,hkp⟩:=hR;have hRV:RelV (cx P kl n B) E H undef (.cnd false v) a w:=⟨Kk,G,hX,hS,hE,hdf,hn,hkp,by simp[VR]⟩
   have c1:=cont fun e=>Bool.noConfusion e
   rw[uV hg]at c1;exact hK' _ _ (Rg.run c1 hB _ _ _ (hRV.put o.dst (zX hd)) hK)
end
def y8(m:Nat)(kl:List Bool)(v:Va)(Y H:List Ob)(pv:Pv):Prop :=
 pv.ok/\kl.length<=m/\m<=H.length/\(ic m H pv.v).all (fun o=>decide (o<m))=true/\iC (fun o=>decide (o<m)) (gJ m H (H.take m))=true /\
  gK (ic m H pv.v) v/\yd (gJ m H (H.take m)) Y/\Y.length=m/\v.all (fun o=>decide (o<m))=true/\iC (fun o=>decide (o<m)) Y=true
section
variable {P:Program} {kl:List Bool} {rs:List ResultVar} {m:Nat} {E:eC} {H Y:List Ob} {v:Va}
theorem qZ(h:y8 m kl v Y H (gU P E H rs)):jt P rs m kl (fun r X=>r=v/\X=Y) E H:=by
 obtain⟨h1,h2,h3,h4,h5,h6,h7,h8,h9,h10⟩:=h;exact⟨h1,h2,h3,h4,h5,_,_,h6,h7,h8,h9,h10,rfl,rfl⟩
theorem zL(h:y8 m kl v Y H (gU P E H rs)):qc P rs m kl (fun r X=>r=v/\X=Y) .ret E H:=qZ h
theorem lK(h:y8 m kl v Y H (gU P E H rs)):qc P rs m kl (fun r X=>r=v/\X=Y) .normal E H:=qZ h
end
theorem vf{n:Nat}{rows:List (List Dt)}{i:Nat}{r:List Dt}(h:fC n rows)(hr:r.length=n):fC n (rows.set i r)=True :=
 eq_true fun x hx=>by
  rcases mem_or_eq_of_mem_set hx with hx|rfl
  .exact h x hx
  .exact hr
theorem mT(n:Nat)(a b:List (List Dt)):fC n (a++b)=(fC n a/\fC n b):=by
 unfold fC;simp only[mem_append,eq_iff_iff];exact⟨fun h=>⟨fun r hr=>h r (.inl hr),fun r hr=>h r (.inr hr)⟩,fun h r hr=>hr.elim (h.1 r) (h.2 r)⟩
theorem sJ{n k:Nat}{rows:List (List Dt)}(h:fC n rows):fC n (rows.take k)=True:=eq_true fun x hx=>h x (mem_of_mem_take hx)
theorem sK{n k:Nat}{rows:List (List Dt)}(h:fC n rows):fC n (rows.drop k)=True:=eq_true fun x hx=>h x (mem_of_mem_drop hx)
theorem Ro{n k:Nat}{r:List Dt}(hr:r.length=n):fC n (List.replicate k r)=True:=eq_true fun x hx=>by rw[(mem_replicate.1 hx).2];exact hr
attribute [go_sem] length_map Int.toNat_natCast sG tD oW bne_self_eq_false
attribute [go_sem] y8 vf mT sJ sK Ro
def xO(s:List UInt8)(c:Int):Int:=Lib.indexByte s c.toNat.toUInt8
def yy(s:List UInt8)(c:Int):Int:=(s.count c.toNat.toUInt8:Nat)
def iQ(a b:List UInt8):Int:=Lib.compareBytes a b
theorem B3(c:UInt8):∀s:List UInt8,-1<=Lib.indexByte s c/\(Lib.indexByte s c<s.length∨Lib.indexByte s c=-1)
 |[]=>by simp[Lib.indexByte]
 |b::s=>by
  have:=B3 c s;unfold Lib.indexByte;simp only[length_cons];split
  .omega
  .split <;> (rename_i h;simp only[beq_iff_eq]at h;omega)
theorem kI(s:List UInt8)(c:Int):-1<=xO s c/\(xO s c<s.length∨xO s c=-1):=B3 c.toNat.toUInt8 s
theorem OS(s:List UInt8)(c:Int):0<=yy s c/\yy s c<=s.length:=by
 unfold yy;have:=count_le_length (a:=c.toNat.toUInt8) (l:=s);omega
theorem rI(a b:List UInt8):-1<=iQ a b/\iQ a b<=1:=by
 unfold iQ
 induction a generalizing b with
 |nil=>cases b <;> simp[Lib.compareBytes]
 |cons x a ih =>
  cases b with
  |nil=>simp[Lib.compareBytes]
  |cons y b =>
   unfold Lib.compareBytes;have:=ih b;split
   .omega
   .split <;> omega
theorem Nv.indexByte {P:Program} {f:FuncId} {fn:Func} (hf:P.funcs[f]?=some fn) (hname:(fn.name == "runtime.NumGoroutine")=false) (hb:fn.body.isNone=true) (hn:Extern.findNext fn=none) (he:Extern.find fn=some Extern.BytealgIndexByte.indexByte) (s:List UInt8) (c:Int) :
  Nv P f [.p (.s s),.p (.i .u8 c)] (.p (.i .i64 (xO s c))):=by
 intro K w vals h;simp only[VRs,VR,DR]at h;obtain⟨a,r,rfl,⟨rfl,hl⟩,b,r',rfl,⟨rfl,hc⟩,rfl⟩:=h;refine⟨.int .i64 (xO s c),?_,?_⟩
 .rw[run_callFunc_extern hf hname hb hn he,Lib.run_indexByteString]
  simp only[Result.andThen,xO]
 .simp only[VR,DR,true_and]
  have:=kI s c;simp only[eM]at hl;simp only[Fits,lo,hi];omega
theorem Nv.countByte {P:Program} {f:FuncId} {fn:Func} (hf:P.funcs[f]?=some fn) (hname:(fn.name == "runtime.NumGoroutine")=false) (hb:fn.body.isNone=true) (hn:Extern.findNext fn=none) (he:Extern.find fn=some Extern.BytealgCount.count) (s:List UInt8) (c:Int) :
  Nv P f [.p (.s s),.p (.i .u8 c)] (.p (.i .i64 (yy s c))):=by
 intro K w vals h;simp only[VRs,VR,DR]at h;obtain⟨a,r,rfl,⟨rfl,hl⟩,b,r',rfl,⟨rfl,hc⟩,rfl⟩:=h;refine⟨.int .i64 (yy s c),?_,?_⟩
 .rw[run_callFunc_extern hf hname hb hn he,Lib.run_countString]
  simp only[Result.andThen,yy,Lib.countByte]
 .simp only[VR,DR,true_and]
  have:=OS s c;simp only[eM]at hl;simp only[Fits,lo,hi];omega
theorem Nv.compare {P:Program} {f:FuncId} {fn:Func} (hf:P.funcs[f]?=some fn) (hname:(fn.name == "runtime.NumGoroutine")=false) (hb:fn.body.isNone=true) (hn:Extern.findNext fn=none) (he:Extern.find fn=some Extern.BytealgCompare.compare) (a b:List UInt8) :
  Nv P f [.p (.s a),.p (.s b)] (.p (.i .i64 (iQ a b))):=by
 intro K w vals h;simp only[VRs,VR,DR]at h;obtain⟨x,r,rfl,⟨rfl,hl⟩,y,r',rfl,⟨rfl,hl'⟩,rfl⟩:=h;refine⟨.int .i64 (iQ a b),?_,?_⟩
 .rw[run_callFunc_extern hf hname hb hn he,Lib.run_compareString]
  simp only[Result.andThen,iQ]
 .simp only[VR,DR,true_and]
  have:=rI a b;simp only[Fits,lo,hi];omega
theorem tN(d:Dt):1<=li d:=by cases d <;> simp only[li] <;> omega
theorem tO{r:List Dt}(h:r≠[]):1<=fW r:=by
 cases r with
 |nil=>exact absurd rfl h
 |cons d r=>simp only[fW];have:=tN d;omega
theorem oN{r:List Dt}:∀{rows:List (List Dt)},r∈rows->fW r<=jC rows
 |x::rows,h=>by
  simp only[jC]
  rcases mem_cons.1 h with rfl|h
  .omega
  .have:=oN h;omega
theorem Hp{α:Type}{f:α->List Dt}{l:List α}{x:α}(h:x∈l):fW (f x)<=jC (l.map f):=oN (mem_map_of_mem h)
theorem Fx{α:Type}{f:α->List Dt}(hf:∀x,f x≠[]):∀l:List α,l.length<=jC (l.map f)
 |[]=>by simp[jC]
 |x::l=>by
  have:=Fx hf l;have:=tO (hf x);simp only[map_cons,jC,length_cons];omega
def NvI(P:Program)(f:FuncId):Prop:=∀(c:Value) (w:World),(callFunc f #[c]).run P w=.ok (.value c) w
theorem NvI.noEscape {P:Program} {f:FuncId} {fn:Func} (hf:P.funcs[f]?=some fn) (hname:(fn.name == "runtime.NumGoroutine")=false) (hb:fn.body.isNone=true) (hn:Extern.findNext fn=none) (he:Extern.find fn=some Extern.AbiNoEscape.same):NvI P f:=by
 intro c w;rw[run_callFunc_extern hf hname hb hn he,Lib.run_noEscape];rfl
section
variable {P:Program} {kl:List Bool} {n:Nat} {B:Bs} {ops:Array Oper} {K:eC->List Ob->Prop} {E:eC} {H:List Ob}
theorem OC{o:Oper}{c:Call}{fop:Operand}{f:FuncId}{caps:List Va}{v:Va}(hs:NvI P f)(ho:o.op=.call c)(hc:c.callee=.value fop)
  (hok:opOk true E fop/\allOk true E c.args.toList) (hf:opnd E fop=.fn f caps) (hv:opnds E c.args.toList++caps=[v]) {a:Act} {w:World} {Q:Exit->Act->World->Prop} {K':Act->World->Prop}
  (hR:Rel (cx P kl n B) E H a w) (hK:∀c',RelV (cx P kl n B) E H c' v a w->K' (a.put o.dst c') w):o.wp P a w K' Q:=by
 obtain⟨Kk,G,hX,hS,hE,hdf,hn,hkp⟩:=hR;have hvf:=zD hE rfl fop hok.1;rw[hf]at hvf;simp only[VR]at hvf;obtain⟨cs,hcs,hcv⟩:=hvf;have hargs:=xT hE rfl c.args.toList hok.2;have hall:=hargs.append hcv;rw[hv]at hall;simp only[VRs]at hall;obtain⟨c',cs',hall1,hall2,rfl⟩:=hall;unfold Oper.wp;rw[OD ho hc hcs,hall1,hs c' w];simp only[Oper.upon];exact hK c' ⟨Kk,G,hX,hS,hE,hdf,hn,hkp,hall2⟩
theorem eo{o:Oper}{l:List Oper}{f:FuncId}{v:Va}{g:Bool}(hs:NvI P f)(ha:Is (ig E o) (some (f,[v])))(hb:Is (iU ops.toList E o) (some g))(hok:iT n g E o)
  (cont:fO P kl n B ops K (fB P kl n ops.toList l ⟨eU E o.dst (iI o.guard g v),H,True⟩)):Rg P kl n B ops (o::l) E H K:=by
 unfold Is ig at ha;unfold Is iU at hb;split at ha
 rotate_left
 .cases ha
 rename_i c h1
 split at ha
 rotate_left
 .cases ha
 rename_i fop h3
 split at ha
 rotate_left
 .cases ha
 rename_i f' caps h4
 have ha':=Option.some.inj ha;obtain rfl:f'=f:=congrArg Prod.fst ha';have hv:opnds E c.args.toList++caps=[v]:=congrArg Prod.snd ha';obtain⟨hd,hk⟩:=ux hok h1 h3
 cases hg:o.guard with
 |none =>
  rw[hg]at hb;obtain rfl:true=g:=Option.some.inj hb;intro hB a w Q hR hK
  refine wpList_plain hg fun K' hK'=>?_
  refine OC hs h1 h3 hk h4 hv hR fun c' hRV=>?_
  have c1:=cont;rw[yM hg]at c1;exact hK' _ _ (Rg.run c1 hB _ _ _ (hRV.put o.dst (zX hd)) hK)
 |some gw =>
  obtain⟨j,want⟩:=gw;rw[hg]at hb;intro hB a w Q hR hK;have hw:=su hR hg hb
  refine wpList_step fun K' hK'=>?_
  cases g with
  |true =>
   rw[if_pos hw]
   refine OC hs h1 h3 hk h4 hv hR fun c' hRV=>?_
   have c1:=cont;rw[uV hg]at c1
   have hRV:RelV (cx P kl n B) E H c' (.cnd true v) a w:=by
    obtain⟨Kk,G,hX,hS,hE,hdf,hn,hkp,hv⟩:=hRV;exact⟨Kk,G,hX,hS,hE,hdf,hn,hkp,by simp only[VR];exact⟨fun _=>hv,fun e=>Bool.noConfusion e⟩⟩
   exact hK' _ _ (Rg.run c1 hB _ _ _ (hRV.put o.dst (zX hd)) hK)
  |false =>
   rw[if_neg (by rw[hw];simp)];obtain⟨Kk,G,hX,hS,hE,hdf,hn,hkp⟩:=hR;have hRV:RelV (cx P kl n B) E H undef (.cnd false v) a w:=⟨Kk,G,hX,hS,hE,hdf,hn,hkp,by simp[VR]⟩;have c1:=cont;rw[uV hg]at c1;exact hK' _ _ (Rg.run c1 hB _ _ _ (hRV.put o.dst (zX hd)) hK)
end
theorem OZ{Z A:Type}{z:Z}{g:Bool}{a:Option A}{d:A}{k:A->Option Z}(h:callG g a d k=some z):∃x,(g=true->a=some x)/\(g=false->x=d)/\k x=some z:=by
 cases g with
 |true=>obtain⟨x,h1,h2⟩:=zd h;exact⟨x,fun _=>h1,fun e=>Bool.noConfusion e,h2⟩
 |false=>exact⟨d,fun e=>Bool.noConfusion e,fun _=>rfl,h⟩
theorem Rel.forget{C:Cx}{E:eC}{H:List Ob}{a:Act}{w:World}{ids:List Nat}{X:List Ob}(hX:jW ids H ids=some X)(hids:lf H.length ids=true)(hR:Rel C E H a w) :
  Rel C (jP (gD ids H) E) (fE (ix (gD ids H) H) ids (hO ids H.length X)) a w:=by
 obtain⟨Kk,G,h1,h2,h3,h4,h5,h6⟩:=hR;obtain⟨hnd,hlt⟩:=Ki hids;obtain⟨hl,hg⟩:=JX hX
 have hpl:(ix (gD ids H) H).length=H.length:=by rw[uU,length_map]
 have hM:Mn Kk Kk w.heap w.heap:=⟨fun _ h=>h,fun _ _=>rfl⟩
 have hMg:Mg (gD ids H) G G:=fun _ _ _ h=>h
 have mF:ids.length<=(hO ids H.length X).length:=by rw[uX];omega
 have hlen:(fE (ix (gD ids H) H) ids (hO ids H.length X)).length=H.length:=by rw[Fk mF,uX,hpl];omega
 have key:∀(o:Nat) (y:Ob),(fE (ix (gD ids H) H) ids (hO ids H.length X))[o]?=some y->∃x,H[o]?=some x/\(y=x∨y=x.prune (gD ids H)):=by
  intro o y hy
  rcases ME hnd (fun i hi=>by rw[hpl];exact hlt i hi) mF hy with⟨j,hj,h⟩|⟨_,_,h⟩|⟨j,hj,_,h⟩
  .rw[GF]at h
   obtain⟨x,hx,hr⟩:=hg j o hj;rw[hx]at h;simp only[Option.map_some,xl hr,Option.some.injEq]at h;have hol:=hlt o (mem_of_getElem? hj);rw[Gc (getElem?_eq_getElem hol)]at h;exact⟨_,getElem?_eq_getElem hol,.inl h.symm⟩
  .rw[uU,getElem?_map]at h
   cases hx:H[o]? with
   |none=>rw[hx]at h;cases h
   |some x=>rw[hx]at h;exact⟨x,rfl,.inr (Option.some.inj h).symm⟩
  .have:=(List.getElem?_eq_some_iff.1 h).1
   rw[uX]at this;omega
 refine⟨Kk,G,h1,⟨by rw[hlen];exact h2.len,h2.kb,h2.gb,h2.inj,fun o g y hgo hy=>?_,h2.tb⟩,fun m=>by rw[CL];exact VR.prune hM hMg _ _ (h3 m),h4,h5,fun o ho=>?_⟩
 .obtain⟨x,hx,rfl|rfl⟩:=key o y hy
  .exact h2.ob o g _ hgo hx
  .exact ObR.prune hM hMg (fun _ _=>rfl) (h2.ob o g _ hgo hx)
 .obtain⟨x,hx,hk⟩:=h6 o ho
  have hol:=(List.getElem?_eq_some_iff.1 hx).1;obtain⟨x',hx',h⟩:=key o _ (getElem?_eq_getElem (by rw[hlen];exact hol))
  rw[hx]at hx';cases hx'
  refine⟨_,getElem?_eq_getElem (by rw[hlen];exact hol),?_⟩
  rcases h with h|h
  .rw[h];exact hk
  .rw[h];cases x <;> first|rfl|cases hk
section
variable {P:Program} {kl:List Bool} {n:Nat} {B:Bs} {ops:Array Oper} {K:eC->List Ob->Prop} {E:eC} {H:List Ob}
theorem dO{o:Oper}{l:List Oper}{f:FuncId}{av args:List Va}{X Y:List Ob}{g:Bool}{v:Va}(ids:List Nat)(hs:g=true->Does P f args X fun r X'=>r=v/\X'=Y)(hY:g=false->Y=X)(ha:Is (ig E o) (some (f,av)))(hb:Is (iU ops.toList E o) (some g))(hp:Is (lc ids av) (some args))(hXs:Is (jW ids H ids) (some X))(hids:lf H.length ids=true)(hok:iT n g E o)
  (cont:fO P kl n B ops K (fB P kl n ops.toList l ⟨eU (jP (gD ids H) E) o.dst (iI o.guard g (fi ids H.length v)),fE (ix (gD ids H) H) ids (hO ids H.length Y),True⟩)):Rg P kl n B ops (o::l) E H K:=by
 unfold Is ig at ha;unfold Is iU at hb;split at ha
 rotate_left
 .cases ha
 rename_i c h1
 split at ha
 rotate_left
 .cases ha
 rename_i fop h3
 split at ha
 rotate_left
 .cases ha
 rename_i f' caps h4
 cases ha;obtain⟨hd,hk⟩:=ux hok h1 h3;have hrun:=Rg.run cont;intro hB a w Q hR hKK
 cases hg:o.guard with
 |none =>
  rw[hg]at hb;obtain rfl:true=g:=Option.some.inj hb
  refine wpList_plain hg fun K' hK'=>?_
  rw[yM hg]at hrun
  refine EU ids (hs rfl) h1 h3 hk h4 hp hXs hids hR fun c' r X' w' ⟨h5,h6⟩ _ hRV=>?_
  subst h5;subst h6
  exact hK' _ _ (hrun hB _ _ _ (hRV.put o.dst (zX hd)) hKK)
 |some gw =>
  obtain⟨j,want⟩:=gw;rw[hg]at hb;have hw:=su hR hg hb;rw[uV hg]at hrun
  refine wpList_step fun K' hK'=>?_
  cases g with
  |true =>
   rw[if_pos hw]
   refine EU ids (hs rfl) h1 h3 hk h4 hp hXs hids hR fun c' r X' w' ⟨h5,h6⟩ _ hRV=>?_
   subst h5;subst h6
   exact hK' _ _ (hrun hB _ _ _ (RelV.put (v:=.cnd true _) (by
    obtain⟨Kk,G,q1,q2,q3,q4,q5,q6,q7⟩:=hRV
    exact⟨Kk,G,q1,q2,q3,q4,q5,q6,by simp only[VR];exact⟨fun _=>q7,fun e=>Bool.noConfusion e⟩⟩) o.dst (zX hd)) hKK)
  |false =>
   rw[if_neg (by rw[hw];simp)];rw[hY rfl]at hrun;obtain⟨Kk,G,hX,hS,hE,hdf,hn,hkp'⟩:=hR.forget hXs hids;exact hK' _ _ (hrun hB _ _ _ (RelV.put (C:=cx P kl n B) (v:=.cnd false _) ⟨Kk,G,hX,hS,hE,hdf,hn,hkp',by simp[VR]⟩ o.dst (zX hd)) hKK)
end
def Gy(s:Nat)(H:List Ob):List Nat->Bool
 |[]=>true
 |i::ids=>((eT H i).kept||decide (i=s))&&Gy s H ids
def JU(s:Nat)(H:List Ob)(ids:List Nat):Bool:=ids.contains s&&!(eT H s).kept&&Gy s H ids
theorem nV{s:Nat}{H:List Ob}{ids:List Nat}(h:JU s H ids=true):gD ids H=(· != s):=by
 simp only[JU,Bool.and_eq_true]at h;obtain⟨⟨h1,h2⟩,h3⟩:=h
 have key:∀(l:List Nat) (o:Nat),Gy s H l=true->o∈l->o≠s->(eT H o).kept=true:=by
  intro l
  induction l with
  |nil=>intro o _ ho;cases ho
  |cons i l ih =>
   intro o hr ho hne;simp only[Gy,Bool.and_eq_true,Bool.or_eq_true,decide_eq_true_eq]at hr
   rcases mem_cons.1 ho with rfl|ho
   .rcases hr.1 with h|h
    .exact h
    .exact absurd h hne
   .exact ih o hr.2 ho hne
 funext o
 simp only[gD]
 by_cases ho:o=s
 .subst ho
  have hk:(eT H o).kept=false:=by simpa using h2
  rw[h1,hk];simp
 .by_cases hm:o∈ids
  .rw[key ids o h3 hm ho];simp[ho]
  .have:ids.contains o=false:=by simpa using hm
   rw[this];simp[ho]
section
variable {P:Program} {kl:List Bool} {n:Nat} {B:Bs} {ops:List Oper} {K:eC->List Ob->Prop} {l:Plan} {obs:List En} {E:eC} {H:List Ob}
theorem dT{k:Nat}{L:List Nat}{f:FuncId}{av args:List Va}{X Y:List Ob}{o:Oper}{v:Va}(s:Nat)(ids:List Nat)(hs:Does P f args X fun r X'=>r=v/\X'=Y)(hk:Is ops[k]? (some o))(hg:Is o.guard none)(ha:Is (ig E o) (some (f,av)))(hp:Is (lc ids av) (some args))(hXs:Is (jW ids H ids) (some X))(hids:lf H.length ids=true)(hkp:JU s H ids=true)(hok:iT n true E o)
  (hag:ur L (some (· != s)) (fE (ix (· != s) H) ids (hO ids H.length Y)) obs)
  (cont:mz P kl n B ops.toArray K (hJ P kl n ops l ⟨obs,eU (jP (· != s) E) o.dst (fi ids H.length v),fE (ix (· != s) H) ids (hO ids H.length Y),True⟩)):Br P kl n B ops.toArray k L l obs E H K:=by
 unfold Is at *;unfold ig at ha;split at ha
 rotate_left
 .cases ha
 rename_i c h1
 split at ha
 rotate_left
 .cases ha
 rename_i fop h3
 split at ha
 rotate_left
 .cases ha
 rename_i f' caps h4
 cases ha;obtain⟨hd,hk1,hk2⟩:=ux hok h1 h3;have h':=Dr.run cont;simp only at h';rw[<-ln hk]at h';refine Br.eff (po:=some (· != s)) (fun _=>?_) hag h';intro E' hE' a w Q K' hR hK;have hop:=yG (iE hk) hE';rw[h1]at hop;have hfo:eY E fop=eY E' fop:=hop fop (by simp[Op.operands,Call.operands,h3])
 have hag':Agree c.args.toList E E':=fun x hx=>hop x (by simp only[Op.operands,Call.operands,Array.toList_append,mem_append];exact .inr hx)
 rw[Agree.opOk hfo]at hk1;rw[Agree.allOk hag']at hk2;rw[Agree.opnd hfo]at h4;rw[Agree.opnds hag']at hp;rw[ln hk]at hK;unfold wpOp;simp only[iE hk];rw[if_pos (by simp[Region.wanted,hg])];refine .inl (EU ids hs h1 h3 ⟨hk1,hk2⟩ h4 hp hXs hids hR fun c' r X' w' ⟨hr,hX⟩ _ hRV=>?_)
 subst hr;subst hX
 rw[nV hkp]at hRV;exact hK _ _ (hRV.put o.dst (zX hd))
end
attribute [go_sem] Gy JU
theorem Bw:∀a b:List (List Dt),g9 (a++b)=g9 a++g9 b
 |[],b=>rfl
 |[]::a,b=>by simp only[cons_append,g9,Bw a b]
 |[.i _ n]::a,b=>by simp only[cons_append,g9,Bw a b]
 |[.b _]::a,b=>by simp only[cons_append,g9,Bw a b]
 |[.s _]::a,b=>by simp only[cons_append,g9,Bw a b]
 |[.l _]::a,b=>by simp only[cons_append,g9,Bw a b]
 |[.a _]::a,b=>by simp only[cons_append,g9,Bw a b]
 |(_::_::_)::a,b=>by simp only[cons_append,g9,Bw a b]
theorem O4:∀a b:List (List Dt),gc (a++b)=(gc a/\gc b)
 |[],b=>by simp[gc]
 |[]::a,b=>by simp[gc]
 |[.i _ n]::a,b=>by simp[gc,O4 a b,and_assoc]
 |[.b _]::a,b=>by simp[gc]
 |[.s _]::a,b=>by simp[gc]
 |[.l _]::a,b=>by simp[gc]
 |[.a _]::a,b=>by simp[gc]
 |(_::_::_)::a,b=>by simp[gc]
theorem BG(a b:List Int):strOf (a++b)=strOf a++strOf b:=by simp only[strOf,map_append]
theorem Bl:strOf []=[]:=rfl
theorem Bv(n:Int)(l:List Int):strOf (n::l)=UInt8.ofNat n.toNat::strOf l:=rfl
theorem PA(s:eA):strOf (xR s)=s:=by
 simp only[strOf,xR,map_map];refine Eq.trans (map_congr_left fun b _=>?_) (map_id _);simp
theorem QX(s:eA):(xR s).length=s.length:=by simp only[xR,length_map]
attribute [go_sem] Bw O4 gc BG Bl Bv g9 PA QX
theorem sd{p:Prop}(h:p:=by(repeat' apply And.intro) <;> first|assumption|omega|(intros;omega)|(intro hg;simp only[Bool.and_eq_true,Bool.or_eq_true,Bool.not_eq_true',decide_eq_true_eq,decide_eq_false_iff_not]at hg;omega)|(simp only[Bool.and_eq_true,Bool.or_eq_true,Bool.not_eq_true',Bool.and_eq_false_iff,Bool.or_eq_false_iff,Bool.not_eq_false',decide_eq_true_eq,decide_eq_false_iff_not];omega)|(intros;simp only[*,Bool.not_false,Bool.not_true,Bool.and_self,Bool.or_self,Bool.and_true,Bool.true_and,Bool.and_false,Bool.or_true,Bool.or_false];done)|(simp_all;done)|(simp_all <;> intros <;> omega)|grind):p:=h
theorem St.cell{K:Nat->Prop}{G:List Gh}{H:List Ob}{w:World}(hS:St K G H w){o off:Nat}{T:TypeId}{vs:List Va}{v':Va}(ho:H[o]?=some (.cells T vs))(h:∀c v,vs[off]?=some v->VR K w.heap G c v->VR K w.heap G c v') :
  St K G (H.set o (.cells T (vs.set off v'))) w:=by
 have hol:=(List.getElem?_eq_some_iff.1 ho).1;refine⟨by simpa using hS.len,hS.kb,hS.gb,hS.inj,fun i g x hg hx=>?_,hS.tb⟩
 by_cases e:i=o
 .subst e
  rw[getElem?_set_self hol]at hx;cases hx;obtain⟨b,cs,r1,r2,r3⟩:=hS.ob i g _ hg ho;refine⟨b,cs,r1,r2,?_⟩
  cases hv:vs[off]? with
  |none=>rwa [set_eq_of_length_le (by rw[List.getElem?_eq_none_iff]at hv;exact hv)]
  |some v =>
   obtain⟨c0,hc0,hv0⟩:=r3.get off _ hv;have:=r3.set (h _ _ hv hv0) off
   rwa [show cs.set off c0=cs by
    apply ext_getElem?;intro j
    by_cases hj:off=j
    .subst hj;rw[getElem?_set_self (List.getElem?_eq_some_iff.1 hc0).1,hc0]
    .rw[getElem?_set_ne hj]]at this
 .rw[getElem?_set_ne (Ne.symm e)]at hx
  exact hS.ob i g x hg hx
theorem Does.np{P:Program}{f:FuncId}{args:List Va}{T:TypeId}{vs vs':List Va}{X Y:List Ob}{v:Va}
  (h1:Does P f args (.cells T (.nil::vs)::X) fun r Z=>r=v/\Z=.cells T (.ptr 0 0::vs')::Y)
  (h2:Does P f args (.cells T (.ptr 0 0::vs)::X) fun r Z=>r=v/\Z=.cells T (.ptr 0 0::vs')::Y) :
  Does P f args (.cells T (.np 0::vs)::X) fun r Z=>r=v/\Z=.cells T (.np 0::vs')::Y:=by
 refine⟨h1.1,fun K G w vals hS hv=>?_⟩
 have fg:∀{e:Ending} {w':World},(∃c r X' K' G',e=.returned c/\(r=v/\X'=.cells T (.ptr 0 0::vs')::Y)/\Ext (eR (true::kinds X)) K G w K' G' w'/\St K' G' X' w'/\VR K' w'.heap G' c r/\iA (eR (true::kinds X)) X') ->
   ∃c r X' K' G',e=.returned c/\(r=v/\X'=.cells T (.np 0::vs')::Y)/\Ext (eR (true::kinds X)) K G w K' G' w'/\St K' G' X' w'/\VR K' w'.heap G' c r/\iA (eR (true::kinds X)) X':=by
  rintro e w' ⟨c,r,X',K',G',e1,⟨e2,rfl⟩,e3,e4,e5,e6⟩;refine⟨c,r,_,K',G',e1,⟨e2,rfl⟩,e3,?_,e5,fun i hi=>?_⟩
  .have:=e4.cell (o:=0) (off:=0) (v':=.np 0) rfl (fun c v hv hc=>by cases hv;simp only[VR]at *;exact .inr hc)
   simpa using this
  .obtain⟨x,hx,hk⟩:=e6 i hi
   cases i with
   |zero=>exact⟨_,rfl,rfl⟩
   |succ i=>exact⟨x,by simpa using hx,hk⟩
 -- the address
 have hlen:=hS.len
 have h0:∃g,G[0]?=some g:=by
  have:0<G.length:=by rw[hlen];simp
  exact⟨_,getElem?_eq_getElem this⟩
 obtain⟨g,hg⟩:=h0;obtain⟨b,cs,r1,r2,r3⟩:=hS.ob 0 g _ hg rfl;simp only[VRs]at r3;obtain⟨c0,cs0,rfl,hc0,hcs0⟩:=r3
 have key:∀v0,VR K w.heap G c0 v0->St K G (.cells T (v0::vs)::X) w:=by
  intro v0 hv0;refine⟨by simpa using hlen,hS.kb,hS.gb,hS.inj,fun i g' x hg' hx=>?_,hS.tb⟩
  cases i with
  |zero =>
   obtain rfl:g=g':=Option.some.inj (hg.symm.trans hg');cases hx;exact⟨b,c0::cs0,r1,r2,by simp only[VRs];exact⟨c0,cs0,rfl,hv0,hcs0⟩⟩
  |succ i=>exact hS.ob (i+1) g' x hg' (by simpa using hx)
 simp only[VR]at hc0
 rcases hc0 with hc0|hc0
 .exact(h1.2 K G w vals (key .nil (by simp only[VR];exact hc0)) hv).mono fun e w' hh=>fg hh
 .exact(h2.2 K G w vals (key (.ptr 0 0) (by simp only[VR];exact hc0)) hv).mono fun e w' hh=>fg hh
section
variable {α β:Type}
open Classical in
noncomputable def uG(p:α->Prop)(k:α->Option β):Option β:=if h:∃z,∀x,p x->k x=some z then some h.choose else none
omit [Tabs] in
theorem Fg{p:α->Prop}{k:α->Option β}{z:β}(h:uG p k=some z):∀x,p x->k x=some z:=by
 unfold uG at h;split at h
 .rename_i hh
  cases h;exact hh.choose_spec
 .cases h
omit [Tabs] in
theorem M2{p:α->Prop}{k:α->Option β}{z:β}(h0:∃x,p x)(h:∀x,p x->k x=some z):uG p k=some z:=by
 have hh:∃z,∀x,p x->k x=some z:=⟨z,h⟩;unfold uG;rw[dif_pos hh];obtain⟨x,hx⟩:=h0;have h1:=hh.choose_spec x hx;rw[h x hx]at h1;exact h1.symm
end
section
variable {P:Program} {kl:List Bool} {n:Nat} {B:Bs} {ops:Array Oper} {K:eC->List Ob->Prop} {E:eC} {H:List Ob}
theorem Rg.any{o:Oper}{l:List Oper}(hg:o.guard=none)(hd:gO n o.dst){I:Va->List Ob->Prop}
  (hrun:∀a w,Rel (cx P kl n B) E H a w->∃c w' v H',(execOp a.eval o).run P w=.ok (.value c) w'/\I v H'/\RelV (cx P kl n B) E H' c v a w')
  (cont:∀v H',I v H'->fO P kl n B ops K (fB P kl n ops.toList l ⟨eU E o.dst v,H',True⟩)):Rg P kl n B ops (o::l) E H K:=by
 intro hB a w Q hR hK
 refine wpList_plain hg fun K' hK'=>?_
 obtain⟨c,w',v,H',h1,h2,h3⟩:=hrun a w hR;unfold Oper.wp;rw[h1];simp only[Oper.upon];exact hK' _ _ (Rg.run (cont v H' h2) hB _ _ _ (h3.put o.dst (zX hd)) hK)
theorem CB{Kt V:Type}(kd:Kt->Dt)(e:V->List Dt)(l:List (Kt×V)):(zm kd e l).length=l.length:=by simp[zm]
end
attribute [go_sem] CB
end Go.Vc
