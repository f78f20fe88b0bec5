/- An abstract machine for the model: what it computes on, its operations, the walk of a body, and that all of it is true of the model (part 2). -/
import Derived.Test.YtbcjkdopkcbblaaGreatDoorVc1
import Derived.Below
import Derived.Carry
import Derived.ChangeArms
import Derived.ChangeSame
import Derived.Deep.LoopGhost
import Derived.JoinedCond
import Derived.Lib.Bytealg
import Derived.LoopN
import Derived.Orders
import Derived.ProofKit
set_option linter.unusedSectionVars false
open List
namespace Go.Vc
variable [Tabs]
section
variable {C:Cx} {E:dz} {H:List Ob} {a:Act} {w:World}
theorem Db{K:Nat->Prop}{G:List Gh}(hS:St K G H w){c:Value}{x:Va}(hc:VR K w.heap G c x){rows:List (List Dt)}(hx:Hq H x=some rows){u e:TypeId}{esz:Nat}(hok:yD C.P u esz e x rows){i:TypeInfo}(hi:i.size=esz) :
  ∃news d,C.P.underlying u=some d/\((∃k,d=.slice k)∨d=.string)/\rk C.P w i.size c rows.length news/\DRss K w.heap esz news rows:=by
 have sl:∀(hx:Df H x=some rows) (hok:eP esz rows/\match dL C.P u with|.slice _ _ _ _=>True|_=>False),∃news d,C.P.underlying u=some d/\((∃k,d=.slice k)∨d=.string)/\rk C.P w i.size c rows.length news/\DRss K w.heap esz news rows:=by
  intro hx ⟨hszk,hkk⟩
  have:∃k es eb ez,dL C.P u=.slice k es eb ez:=by
   split at hkk
   .exact⟨_,_,_,_,by assumption⟩
   .exact hkk.elim
  obtain⟨k,es,eb,ez,hk⟩:=this;obtain⟨ti,ht,hk'⟩:=zH hk (by simp);obtain⟨hlim,hh⟩:=N3 hS hc hx
  rcases hh with⟨a,cap,rfl,rfl⟩|⟨b,off,cap,cs,T,fr,sz,vs,rfl,hb,hv,hd⟩
  .exact⟨[],_,(lD ht hk').1,.inl ⟨k,rfl⟩,⟨fun _=>rfl,fun _ _=>by cases a <;> simp[Builtin.firstCells,loadCells,loadCellsFrom],by simp⟩,by simp[DRss]⟩
  .rcases Classical.em (rows=[])with rfl|hne
   .refine⟨[],_,(lD ht hk').1,.inl ⟨k,rfl⟩,⟨fun _=>rfl,fun w' _=>?_,by simp⟩,by simp[DRss]⟩
    simp[Builtin.firstCells,loadCells,loadCellsFrom]
   .have hsz:=hd.sz hszk hne
    subst hsz;have hl:=hd.length;refine⟨vs,_,(lD ht hk').1,.inl ⟨k,rfl⟩,⟨fun _=>rfl,fun w' hw'=>?_,by rw[hl,hi]⟩,hd⟩;refine run_firstCells_some (P:=C.P) w' i.size rows.length _ _ _ vs (by rw[hl,hi]) (fun j v hj=>?_);rw[m0,cell_of_row w' b (off+j) cs T fr (by rw[hw'];exact hb)];exact hv j v hj
 unfold Hq at hx;split at hx
 .rename_i l
  cases hx;simp only[yD]at hok;obtain⟨hk,rfl,hke⟩:=hok;obtain⟨ti,ht,hk'⟩:=zH hk (by simp);simp only[VR,DR]at hc;obtain⟨rfl,hlim⟩:=hc;refine⟨l.map fun b=>Value.int .u8 b.toNat,_,Dd ht hk',.inr rfl,⟨fun _=>by simp[Builtin.lenOf,ByteArray.size,bR],fun w' _=>?_,by simp[bR,hi]⟩,DRss.bytes l⟩
  have e:(⟨l.toArray⟩:ByteArray).extract 0 (bR l).length=⟨l.toArray⟩:=by
   apply ByteArray.ext;rw[ByteArray.data_extract];simp[bR]
  simp only[Builtin.firstCells,e,Sem.run_pure];simp
 .rename_i hns
  have hok':eP esz rows/\match dL C.P u with|.slice _ _ _ _=>True|_=>False:=by
   unfold yD at hok;split at hok
   .rename_i l;exact absurd rfl (hns l)
   .exact hok
  exact sl hx hok'
theorem QP{K:Nat->Prop}{h:Array Obj}:∀{rows:List (List Dt)} {vs:List Value},DRss K h 1 vs rows->fy rows->vs=(gP rows).map mN/\(gP rows).length=rows.length
 |[],vs,hd,_=>by simp only[DRss]at hd;subst hd;exact⟨rfl,rfl⟩
 |[.i k n]::rs,vs,hd,ha=>by
  simp only[fy]at ha;obtain⟨rfl,ha⟩:=ha;simp only[DRss,DRs,DR]at hd;obtain⟨a,b,rfl,_,⟨v,vs',rfl,⟨rfl,hf⟩,rfl⟩,hd⟩:=hd;obtain⟨h1,h2⟩:=QP hd ha;simp only[Fits,lo,hi]at hf;refine⟨?_,by simp[gP,h2]⟩;simp only[gP,map_cons,cons_append,nil_append,h1,mN]
  congr 2
  rw[UInt8.toNat_ofNat'];omega
 |[]::_,_,_,ha=>by simp[fy]at ha
 |[.b _]::_,_,_,ha=>by simp[fy]at ha
 |[.s _]::_,_,_,ha=>by simp[fy]at ha
 |[.l _]::_,_,_,ha=>by simp[fy]at ha
 |[.a _]::_,_,_,ha=>by simp[fy]at ha
 |(_::_::_)::_,_,_,ha=>by simp[fy]at ha
theorem wa{c:Call}{x:Operand}(h1:c.callee=.builtin .unsafeSliceData)(h2:c.args.toList=[x]){o:Oper}(ho:o.op=.call c){v:Value}{w':World}
  (hr:∀ts,(Builtin.unsafeSliceData_ ts o.type #[a.eval x]).run C.P w=.ok v w'):(execOp a.eval o).run C.P w=.ok (.value v) w':=by
 obtain⟨callee,args,argTypes⟩:=c;obtain⟨dst,op,ty,pos,af,gd⟩:=o;cases ho;simp only at h1 h2 hr;subst h1
 have ha:args=#[x]:=by cases args;simp_all
 subst ha;simp[execOp,resolve,invoke,builtin,hr]
theorem vE{c:Call}{x y:Operand}{t u:TypeId}(h1:c.callee=.builtin .unsafeString)(h2:c.args.toList=[x,y])(h3:c.argTypes.toList=[t,u]){o:Oper}(ho:o.op=.call c){v:Value}{w':World}
  (hr:(Builtin.unsafeString_ #[t,u] o.type #[a.eval x,a.eval y]).run C.P w=.ok v w'):(execOp a.eval o).run C.P w=.ok (.value v) w':=by
 obtain⟨callee,args,argTypes⟩:=c;obtain⟨dst,op,ty,pos,af,gd⟩:=o;cases ho;simp only at h1 h2 h3 hr;subst h1
 have ha:args=#[x,y]:=by cases args;simp_all
 have ht:argTypes=#[t,u]:=by cases argTypes;simp_all
 subst ha;subst ht
 simp[execOp,resolve,invoke,builtin,hr]
theorem JK(hR:Rel C E H a w)(o:Oper){c:Call}{x:Operand}(h1:c.callee=.builtin .unsafeSliceData)(h2:c.args.toList=[x])(ho:o.op=.call c)(hx:opOk true E x)(hok:(JL H (opnd E x)).ok) :
  jz C o a w (JL H (opnd E x)).v E H:=by
 obtain⟨K,G,hX,hS,hE,hd,hn,hkp⟩:=hR;have hvx:=zz hE rfl x hx;unfold JL at hok|-;split at hok
 rotate_left
 .exact hok.elim
 rename_i oo hox
 split at hok
 rotate_left
 .exact hok.elim
 rename_i T bs hob
 rw[hox]at hvx;simp only[VR]at hvx;obtain⟨g,hg,hax,_⟩:=hvx;obtain⟨hlim,hh⟩:=hS.ob oo g _ hg (zJ hob (by simp))
 rcases hh with⟨h1',rfl,_⟩|⟨b,cap,cur,fr,hsv,hgb,hb,hfr,h4,h5,h6,h7,h8⟩
 .refine⟨.pointer none,w,.inl (wa h1 h2 ho fun ts=>?_),K,G,hX,hS,hE,hd,hn,hkp,?_⟩
  .rw[hax,h1'];exact Lib.run_unsafeSliceData_nil w ts _ 0 0
  .simp only[VR];exact⟨g,none,0,0,hg,h1',rfl⟩
 .refine⟨.pointer (some ⟨b,0,none⟩),w,.inl (wa h1 h2 ho fun ts=>?_),K,G,hX,hS,hE,hd,hn,hkp,?_⟩
  .rw[hax,hsv];exact Lib.run_unsafeSliceData_row w ts _ _ _ cap (by omega)
  .simp only[VR];exact⟨g,_,_,_,hg,hsv,rfl⟩
theorem ml{fr:Nat×Nat}{n:Nat}(h:pK fr n):pK (if fr.1 == fr.2 then(0,n)else(min fr.1 0,max fr.2 n)) n:=by
 by_cases e:fr.1=fr.2
 .simp[e,pK]
 .rcases h with h|⟨h1,h2⟩
  .exact absurd h e
  .have:(fr.1 == fr.2)=false:=by simpa using e
   rw[this];simp only[Bool.false_eq_true,if_false,pK];right;omega
theorem Jj(hR:Rel C E H a w)(o:Oper){c:Call}{x y:Operand}{t u:TypeId}(h1:c.callee=.builtin .unsafeString)(h2:c.args.toList=[x,y])(h3:c.argTypes.toList=[t,u])(ho:o.op=.call c)(hx:opOk true E x)(hy:opOk true E y)(hok:(Jk C.P H t (opnd E x) (opnd E y)).ok) :
  jz C o a w (Jk C.P H t (opnd E x) (opnd E y)).v E H:=by
 obtain⟨K,G,hX,hS,hE,hd,hn,hkp⟩:=hR;have hvx:=zz hE rfl x hx;have hvy:=zz hE rfl y hy;unfold Jk at hok|-;split at hok
 rotate_left
 .exact hok.elim
 rename_i oo k n hox hoy
 split at hok
 rotate_left
 .exact hok.elim
 rename_i T bs hob
 obtain⟨hsb,rfl,rfl⟩:=hok;rw[hox]at hvx;rw[hoy]at hvy;simp only[VR,DR]at hvx hvy;obtain⟨g,ad,m,cp,hg,hsv0,hax⟩:=hvx;obtain⟨hay,_⟩:=hvy;obtain⟨hlim,hh⟩:=hS.ob oo g _ hg (zJ hob (by simp))
 have hpt:C.P.underlying t=some (.pointer T)/\C.P.cellsOf T=1:=by
  unfold Pr at hsb;split at hsb
  .rename_i e hu
   simp only[Bool.and_eq_true,decide_eq_true_eq]at hsb;obtain⟨rfl,hc⟩:=hsb;exact⟨hu,hc⟩
  .cases hsb
 have hvs:∀w':World,VR K w'.heap G (.string ⟨bs.toArray⟩) (.p (.s bs)):=fun w'=>by simp only[VR,DR];exact⟨trivial,hlim⟩
 have none':bs=[]->(execOp a.eval o).run C.P w=.ok (.value (.string ⟨bs.toArray⟩)) w:=by
  rintro rfl;refine vE h1 h2 h3 ho ?_;rw[hax,hay];exact Lib.run_unsafeString_none (P:=C.P) w t u o.type ad
 rcases Classical.em (bs=[])with h0|h0
 .exact⟨_,w,.inl (none' h0),K,G,hX,hS,hE,hd,hn,hkp,hvs w⟩
 rcases hh with⟨_,h,_⟩|⟨b,cap,cur,fr,hsv,hgb,hb,hfr,h4,h5,h6,h7,h8⟩
 .exact absurd h h0
 have hade:ad=some ⟨b,0,none⟩:=by
  rw[hsv0]at hsv;injection hsv
 subst hade
 have hsh:w.shape? b=some (T,cur.size):=by simp[World.shape?,hb]
 have hrun:=Lib.run_unsafeString_row (P:=C.P) w t u o.type T hpt.1 hpt.2 b cur.size hsh bs h0 (by omega) (by unfold dJ at hlim;omega) (fun j x hj=>by
  rw[m0,cell_of_row w b (0+j) cur T fr hb,Nat.zero_add,<-Array.getElem?_toList]
  have:(cur.toList.take bs.length)[j]?=some (mN x):=by rw[h8,getElem?_map,hj];rfl
  rw[getElem?_take]at this;split at this
  .exact this
  .cases this)
 have hb':(w.freeze ⟨b,0,none⟩ bs.length).heap[b]?=some (.cells cur T (if fr.1 == fr.2 then(0,bs.length)else(min fr.1 0,max fr.2 bs.length))):=by
  have hl:bs.length≠0:=by simpa using h0
  obtain⟨f1,f2⟩:=fr;simp[World.freeze,hl,Array.getElem?_modify,hb]
 have hfr':∀i,i≠b->(w.freeze ⟨b,0,none⟩ bs.length).heap[i]?=w.heap[i]?:=by
  intro i hi
  have hl:bs.length≠0:=by simpa using h0
  simp[World.freeze,hl,Array.getElem?_modify,Ne.symm hi]
 have hsz:(w.freeze ⟨b,0,none⟩ bs.length).heap.size=w.heap.size:=by
  have hl:bs.length≠0:=by simpa using h0
  simp[World.freeze,hl]
 have hos:(w.freeze ⟨b,0,none⟩ bs.length).os=w.os/\(w.freeze ⟨b,0,none⟩ bs.length).tape=w.tape/\(w.freeze ⟨b,0,none⟩ bs.length).output=w.output:=by
  have hl:bs.length≠0:=by simpa using h0
  simp[World.freeze,hl]
 have hMn:Mn K K w.heap (w.freeze ⟨b,0,none⟩ bs.length).heap:=⟨fun _ h=>h,fun i hi=>hfr' i fun e=>(hS.gb oo g b hg hgb).2 (e ▸ hi)⟩
 have hset:H.set oo (.sb T bs)=H:=by
  have:=zJ hob (by simp);obtain⟨hl,he⟩:=List.getElem?_eq_some_iff.1 this;rw[<-he];exact set_getElem_self hl
 have hS':=hS.modA (x:=.sb T bs) hg hgb hsz hfr' ⟨hlim,.inr ⟨b,cap,cur,_,hsv,hgb,hb',ml hfr,h4,h5,h6,h7,h8⟩⟩;rw[hset]at hS';refine⟨.string ⟨bs.toArray⟩,w.freeze ⟨b,0,none⟩ bs.length,.inl (vE h1 h2 h3 ho ?_),K,G,hX.trans (Ext.modA C.kp hg hgb hos.1 hos.2.1 hos.2.2 hsz hfr'),hS',fun m=>VR.grow hMn (fun _ _ h=>h) _ _ (hE m),hd,hn,hkp,hvs _⟩;rw[hax,hay];exact hrun
theorem Q0(hR:Rel C E H a w)(ad:Option Addr)(x:Ob)(hx:∀K h G,ObR K h G ⟨none,.slice ad 0 0⟩ x):RelV C E (H++[x]) (.slice ad 0 0) (.buf H.length) a w:=by
 obtain⟨K,G,hX,hS,hE,hd,hnn,hk⟩:=hR
 have old:∀{i:Nat} {g:Gh},(G++[⟨none,.slice ad 0 0⟩])[i]?=some g->(G[i]?=some g)∨(i=G.length/\g=⟨none,.slice ad 0 0⟩):=by
  intro i g hg
  rcases Nat.lt_or_ge i G.length with h|h
  .rw[getElem?_append_left h]at hg;exact .inl hg
  .rw[getElem?_append_right h]at hg
   have:i-G.length=0:=by
    rcases Nat.lt_or_ge (i-G.length) 1 with h'|h'
    .omega
    .rw[getElem?_eq_none (by simpa using h')]at hg;cases hg
   rw[this]at hg;simp at hg;exact .inr ⟨by omega,hg.symm⟩
 have hG:∀(o:Nat) (g:Gh),G[o]?=some g->(G++[⟨none,.slice ad 0 0⟩])[o]?=some g:=fun o g hg=>Mg.push G _ o g rfl hg
 have hM:Mn K K w.heap w.heap:=⟨fun _ h=>h,fun _ _=>rfl⟩;refine⟨K,G++[⟨none,.slice ad 0 0⟩],?_,?_,fun m=>VR.grow hM hG _ _ (hE m),hd,hnn,fun o ho=>?_,?_⟩
 .refine hX.trans { Ext.refl C.kp K G w with glen:=by simp,gold:=fun i g0 g b h0 hg hb=>?_,gnew:=fun i g b hi hg hb=>?_,gsame:=fun i g0 _ h0=>hG i g0 h0 }
  .rw[hG i g0 h0]at hg;cases hg;exact .inl hb
  .rcases old hg with h|⟨_,rfl⟩
   .rw[getElem?_eq_none hi]at h;cases h
   .cases hb
 .refine⟨by simp[hS.len],hS.kb,fun i g b hg hb=>?_,fun i j g g' b hg hg' hb hb'=>?_,fun i g y hg hy=>?_,hS.tb⟩
  .rcases old hg with h|⟨_,rfl⟩
   .exact hS.gb i g b h hb
   .cases hb
  .rcases old hg with h|⟨_,rfl⟩
   .rcases old hg' with h'|⟨_,rfl⟩
    .exact hS.inj i j g g' b h h' hb hb'
    .cases hb'
   .cases hb
  .rcases old hg with h|⟨e,rfl⟩
   .have hl:=(List.getElem?_eq_some_iff.1 h).1
    rw[hS.len]at hl;rw[getElem?_append_left hl]at hy;exact ObR.keep hM (Mg.push G _) (fun _ _=>rfl) (Ob.all_true _) (hS.ob i g y h hy)
   .subst e
    rw[hS.len,getElem?_append_right (Nat.le_refl _)]at hy;simp at hy;subst hy;exact hx _ _ _
 .obtain⟨vs',hvs',hkt⟩:=hk o ho
  exact⟨vs',by rw[getElem?_append_left (List.getElem?_eq_some_iff.1 hvs').1];exact hvs',hkt⟩
 .simp only[VR]
  refine⟨⟨none,.slice ad 0 0⟩,?_,rfl,_,_,_,rfl⟩;rw[<-hS.len,getElem?_append_right (Nat.le_refl _)];simp
theorem P4(hR:Rel C E H a w)(x:Ob)(hx:∀K h G,ObR K h G ⟨none,.slice none 0 0⟩ x):RelV C E (H++[x]) (.slice none 0 0) (.buf H.length) a w:=Q0 hR none x hx
theorem qF(hR:Rel C E H a w)(ad:Option Addr)(T:TypeId)(sz:Nat):RelV C E (H++[.buf T sz []]) (.slice ad 0 0) (.buf H.length) a w :=
 Q0 hR ad _ fun _ _ _=>⟨by simp,[],by simp[DRss],.inl ⟨⟨ad,rfl⟩,rfl,rfl⟩⟩
theorem kq(hR:Rel C E H a w)(T:TypeId)(sz:Nat):RelV C E (H++[.buf T sz []]) (.slice none 0 0) (.buf H.length) a w :=
 P4 hR _ fun _ _ _=>⟨by simp,[],by simp[DRss],.inl ⟨⟨none,rfl⟩,rfl,rfl⟩⟩
theorem Ic{c:Call}{x y:Operand}{t u:TypeId}(h1:c.callee=.builtin .append)(h2:c.args.toList=[x,y])(h3:c.argTypes.toList=[t,u]){o:Oper}(ho:o.op=.call c){v:Value}{w':World}
  (hr:(Builtin.append_ #[t,u] o.type #[a.eval x,a.eval y]).run C.P w=.ok v w'):(execOp a.eval o).run C.P w=.ok (.value v) w':=by
 obtain⟨callee,args,argTypes⟩:=c;obtain⟨dst,op,ty,pos,af,gd⟩:=o;cases ho;simp only at h1 h2 h3 hr;subst h1
 have ha:args=#[x,y]:=by cases args;simp_all
 have ht:argTypes=#[t,u]:=by cases argTypes;simp_all
 subst ha;subst ht
 simp[execOp,resolve,invoke,builtin,hr]
theorem yd(hR:Rel C E H a w)(o:Oper){c:Call}{x y:Operand}{t u:TypeId}(h1:c.callee=.builtin .append)(h2:c.args.toList=[x,y])(h3:c.argTypes.toList=[t,u])(ho:o.op=.call c)
  (hx:opOk true E x) (hy:opOk true E y) (hok:(pt C.P C.kp E H t u (opnd E x) (opnd E y)).ok) :
  jz C o a w (pt C.P C.kp E H t u (opnd E x) (opnd E y)).v (pt C.P C.kp E H t u (opnd E x) (opnd E y)).E (pt C.P C.kp E H t u (opnd E x) (opnd E y)).H:=by
 obtain⟨K,G,hX,hS,hE,hd,hn,hkp⟩:=hR;have hvx:=zz hE rfl x hx;have hvy:=zz hE rfl y hy;unfold pt at hok|-;split at hok
 rotate_left
 .exact hok.elim
 rename_i e esz eb ez hk
 obtain⟨ti,ht,hk'⟩:=zH hk (by simp);obtain⟨hu,⟨i,hi1,hi2,hi3⟩,hez⟩:=lD ht hk'
 have hzi:∃zv,i.zero=some zv/\zv.cells.toList=ez:=by
  unfold y7 at hez;rw[hi1]at hez;simp at hez;exact hez
 obtain⟨zv,hzv,hzc⟩:=hzi;split at hok
 rotate_left
 .exact hok.elim
 rename_i rows' hsrc
 -- an object that has grown
 have eu:∀(G1:List Gh) (H1:List Ob) (oo:Nat) (g:Gh) (X:Ob),St K G1 H1 w->G1[oo]?=some g->g.sv=a.eval x->C.kp oo=false->Ext C.kp C.K0 C.G0 C.w0 K G1 w->jJ K w.heap G1 a E->fE C.kp H1 ->
   (∃sv w' g1,(Builtin.append_ #[t,u] o.type #[g.sv,a.eval y]).run C.P w=.ok sv w'/\g1.sv=sv/\(∃a n c,sv=.slice a n c)/\w'.os=w.os/\w'.tape=w.tape/\w'.output=w.output/\w.heap.size<=w'.heap.size /\
    (∀i,i<w.heap.size->g.blk≠some i->w'.heap[i]?=w.heap[i]?)/\(∀b,g1.blk=some b->b<w'.heap.size/\(g.blk=some b∨w.heap.size<=b))/\ObR K w'.heap (G1.set oo g1) g1 X) ->
   jz C o a w (.buf oo) (ik (· != oo) E) ((gh (· != oo) H1).set oo X):=by
  intro G1 H1 oo g X hS1 hg hsv hkf hX1 hE1 hkp1 hh;obtain⟨sv,w',g1,hrun,hg1,hslice,e1,e2,e3,e4,e5,e6,e7⟩:=hh;refine⟨sv,w',.inl (Ic h1 h2 h3 ho (by rw[<-hsv];exact hrun)),?_⟩;have hM:Mn K K w.heap w'.heap:=⟨fun _ h=>h,fun b hb=>e5 b (hS1.kb b hb) fun e=>(hS1.gb oo g b hg e).2 hb⟩
  have hMg:Mg (· != oo) G1 (G1.set oo g1):=fun j g' hj hg'=>by rw[getElem?_set_ne (by simpa using Ne.symm (by simpa using hj))];exact hg'
  have hol:oo<G1.length:=(List.getElem?_eq_some_iff.1 hg).1;refine⟨K,G1.set oo g1,hX1.trans (Ext.modB hg hkf e1 e2 e3 e4 e5 (fun b hb=>(e6 b hb).2)),?_,fun m=>?_,hd,hn,fun j hj=>?_,?_⟩
  .rw[jQ]
   exact hS1.modB hg e4 e5 e6 e7
  .rw[Ay]
   exact VR.prune hM hMg _ _ (hE1 m)
  .obtain⟨vs,hvs,hkt⟩:=hkp1 j hj
   have hne:j≠oo:=fun h=>by rw[h,hkf]at hj;cases hj
   refine⟨vs.prune (· != oo),?_,by cases vs <;> first|rfl|cases hkt⟩;rw[getElem?_set_ne (Ne.symm hne),jQ,getElem?_map,hvs];rfl
  .simp only[VR]
   exact⟨g1,getElem?_set_self hol,hg1.symm,by rw[hg1];exact hslice⟩
 -- the step on an object at hand
 have step:∀(G1:List Gh) (H1:List Ob) (oo:Nat) (g:Gh) (rows:List (List Dt)),St K G1 H1 w->G1[oo]?=some g->ObR K w.heap G1 g (.buf e esz rows)->g.sv=a.eval x->Hq H1 (opnd E y)=some rows'->VR K w.heap G1 (a.eval y) (opnd E y) ->
   ez.length=esz->eb<=512->(rows++rows').length<=dJ->yD C.P u esz e (opnd E y) rows'->C.kp oo=false->Ext C.kp C.K0 C.G0 C.w0 K G1 w->jJ K w.heap G1 a E->fE C.kp H1 ->
   jz C o a w (.buf oo) (ik (· != oo) E) ((gh (· != oo) H1).set oo (.buf e esz (rows++rows'))):=by
  intro G1 H1 oo g rows hS1 hg hob hsv hsrc1 hvy1 hel heb hlim hso hkf hX1 hE1 hkp1;obtain⟨news,d,hdu,hdd,hsr,hdr⟩:=Db (C:=C) hS1 hvy1 hsrc1 hso hi2
  have hby:(rows++rows').length*i.bytes<=140737488355328:=by
   rw[hi3];have:=Nat.mul_le_mul hlim heb;unfold dJ at this;omega
  exact eu G1 H1 oo g _ hS1 hg hsv hkf hX1 hE1 hkp1 (FB (P:=C.P) hS1 hg hob (t:=t) (u:=u) (ty:=o.type) hu hdu hdd hi1 hi2 hzv (by rw[<-hel,<-hzc];simp) hsr hdr.ones hdr rfl hlim hby)
 have grow:∀(base:Option Addr) (n cap:Nat) (rows:List (List Dt)) (olds:List Value),a.eval x=.slice base n cap->rk C.P w i.size (.slice base n cap) n olds->rows.length=n->DRss K w.heap esz olds rows->n=cap ->
   ∀(news:List Value) (d:TypeDesc),C.P.underlying u=some d->((∃k,d=.slice k)∨d=.string)->rk C.P w i.size (a.eval y) rows'.length news->DRss K w.heap esz news rows' ->
   ez.length=esz->eb<=512->(rows++rows').length<=dJ->0<rows'.length->∀dat:Bool,jz C o a w (match dat with|true=>.p (.l (rows++rows'))|false=>.buf H.length) E (match dat with|true=>H|false=>H++[.buf e esz (rows++rows')]):=by
  intro base n cap rows olds hax hos hrn hod hnc news d hdu hdd hsr hdr hel heb hlim hpos dat;subst hrn;subst hnc
  have hlim':rows.length+rows'.length<=dJ:=by simpa using hlim
  have hby:(rows.length+rows'.length)*i.bytes<=140737488355328:=by
   rw[hi3];have:=Nat.mul_le_mul hlim' heb;unfold dJ at this;omega
  have hl63:rows.length+rows'.length<=9223372036854775807:=by unfold dJ at hlim';omega
  have hrun:=OG (P:=C.P) w (ty:=o.type) hu hdu hdd hi1 hzv hos hsr (by omega) hl63 (growslice_fits (by omega) hby);have hge:=grownCap_ge w (rows.length+rows'.length) rows.length e;have hcm:=grownCap_le_maxLen w (rows.length+rows'.length) rows.length e (by simp only[maxLen];omega);have hol:=hod.length;have hnl:=hdr.length
  have hzs:zv.cells.size=esz:=by rw[<-hel,<-hzc];simp
  refine⟨_,_,.inl (Ic h1 h2 h3 ho (by rw[hax];exact hrun)),?_⟩;cases dat
  .refine HM (w1:=w.drew) hX hS hE hd hn hkp (.inr rfl) (xs:=olds++news) (hod.append hdr) (by simp) hlim' (Free.zero _) hge hcm ?_ ?_
   .simp only[Array.size_append,size_toArray,size_zeroCells,hzs,hol,hnl,<-Nat.add_mul]
    congr 1
    omega
   .simp only[Array.toList_append,append_assoc]
    rw[<-append_assoc]
    have:(olds++news).length=(rows.length+rows'.length)*esz:=by rw[length_append,hol,hnl,Nat.add_mul]
    rw[<-this];exact take_left
  .refine wt (w1:=w.drew) hX hS hE hd hn hkp (.inr rfl) (xs:=olds++news) (hod.append hdr) (by simp) hlim' (Free.zero _) hge hcm ?_ ?_
   .simp only[Array.size_append,size_toArray,size_zeroCells,hzs,hol,hnl,<-Nat.add_mul]
    congr 1
    omega
   .simp only[Array.toList_append,append_assoc]
    rw[<-append_assoc]
    have:(olds++news).length=(rows.length+rows'.length)*esz:=by rw[length_append,hol,hnl,Nat.add_mul]
    rw[<-this];exact take_left
 split at hok
 .rename_i oo hox
  split at hok
  rotate_left
  .rename_i T bs hob
   obtain⟨hkf,rfl,rfl,hel,heb,hlim,hall,hso⟩:=hok;rw[hox]at hvx;simp only[VR]at hvx;obtain⟨g,hg,hax,_⟩:=hvx;obtain⟨news,d,hdu,hdd,hsr,hdr⟩:=Db (C:=C) hS hvy hsrc hso hi2;obtain⟨hnb,hbl⟩:=QP hdr hall;rw[hnb,<-hbl]at hsr
   have hby:(bs++gP rows').length*i.bytes<=140737488355328:=by
    rw[hi3];have:=Nat.mul_le_mul hlim heb;unfold dJ at this;omega
   exact eu G H oo g _ hS hg hax.symm hkf hX hE hkp (uA (P:=C.P) hS hg (hS.ob oo g _ hg (zJ hob (by simp))) (t:=t) (u:=u) (ty:=o.type) hu hdu hdd hi1 hi2 hzv (by rw[<-hel,<-hzc];simp) hsr hlim hby)
  .exact hok.elim
  rename_i T sz rows hob
  obtain⟨hkf,rfl,rfl,hel,heb,hlim,hso⟩:=hok;rw[hox]at hvx;simp only[VR]at hvx;obtain⟨g,hg,hax,_⟩:=hvx;exact step G H oo g rows hS hg (hS.ob oo g _ hg (zJ hob (by simp))) hax.symm hsrc hvy hel heb hlim hso hkf hX hE hkp
 .rename_i hox
  obtain⟨hkf,hel,heb,hlim,hso⟩:=hok;rw[hox]at hvx;simp only[VR]at hvx;obtain⟨news,d,hdu,hdd,hsr,hdr⟩:=Db (C:=C) hS hvy hsrc hso hi2
  rcases Nat.eq_zero_or_pos rows'.length with h0|hpos
  .have hr0:rows'=[]:=length_eq_zero_iff.1 h0
   subst hr0;exact⟨_,w,.inl (Ic h1 h2 h3 ho (by rw[hvx];exact It (P:=C.P) w hu hdu hdd hi1 hsr none)),kq ⟨K,G,hX,hS,hE,hd,hn,hkp⟩ e esz⟩
  .have hs0:rk C.P w i.size (.slice none 0 0) 0 []:=⟨fun _=>rfl,fun _ _=>by simp[Builtin.firstCells],by simp⟩
   exact grow none 0 0 [] [] hvx hs0 rfl (by simp[DRss]) rfl news d hdu hdd hsr hdr hel heb (by simpa using hlim) hpos false
 .rename_i rows hox
  cases hdb:Fq C.P e (opnd E y)with
  |true =>
   simp only[hdb]at hok;obtain⟨hel,heb,hlim,hszk,hpos,hso⟩:=hok;rw[hox]at hvx;obtain⟨news,d,hdu,hdd,hsr,hdr⟩:=Db (C:=C) hS hvy hsrc hso hi2;obtain⟨olds,d2,_,_,hos,hod⟩:=Db (C:=C) (u:=t) (e:=e) hS hvx (rows:=rows) rfl ⟨hszk,by rw[hk];trivial⟩ hi2;have hax:=hvx;simp only[VR]at hax;obtain⟨_,base,hax⟩:=hax;rw[hax]at hos
   rcases Nat.eq_zero_or_pos rows'.length with h0|hpos'
   .have hr0:rows'=[]:=length_eq_zero_iff.1 h0
    subst hr0
    cases rows with
    |cons _ _=>simp[jc]at hpos
    |nil=>exact⟨_,w,.inl (Ic h1 h2 h3 ho (by rw[hax];exact It (P:=C.P) w hu hdu hdd hi1 hsr base)),⟨K,G,hX,hS,hE,hd,hn,hkp,by simp only[VR,DR];exact .inl ⟨⟨base,rfl⟩,rfl⟩⟩⟩
   .exact grow base rows.length rows.length rows olds hax hos rfl hod rfl news d hdu hdd hsr hdr hel heb hlim hpos' true
  |false =>
   simp only[hdb]at hok;obtain⟨hkf,hel,heb,hlim,hszk,hpos,hso⟩:=hok;rw[hox]at hvx;obtain⟨news,d,hdu,hdd,hsr,hdr⟩:=Db (C:=C) hS hvy hsrc hso hi2;obtain⟨olds,d2,_,_,hos,hod⟩:=Db (C:=C) (u:=t) (e:=e) hS hvx (rows:=rows) rfl ⟨hszk,by rw[hk];trivial⟩ hi2;have hax:=hvx;simp only[VR]at hax;obtain⟨_,base,hax⟩:=hax;rw[hax]at hos
   rcases Nat.eq_zero_or_pos rows'.length with h0|hpos'
   .have hr0:rows'=[]:=length_eq_zero_iff.1 h0
    subst hr0
    cases rows with
    |cons _ _=>simp[jc]at hpos
    |nil=>exact⟨_,w,.inl (Ic h1 h2 h3 ho (by rw[hax];exact It (P:=C.P) w hu hdu hdd hi1 hsr base)),qF ⟨K,G,hX,hS,hE,hd,hn,hkp⟩ base e esz⟩
   .exact grow base rows.length rows.length rows olds hax hos rfl hod rfl news d hdu hdd hsr hdr hel heb hlim hpos' false
 .exact hok.elim
def xr(C:Cx)(E:dz)(H:List Ob)(o:Oper):Prop :=
 (eY C.P C.kp E H o.op).ok->∀a w,Rel C E H a w->jz C o a w (eY C.P C.kp E H o.op).v (eY C.P C.kp E H o.op).E (eY C.P C.kp E H o.op).H
theorem q0(C:Cx)(E:dz)(H:List Ob)(o:Oper):xr C E H o:=by
 intro hok a w hR
 cases ho:o.op <;> rw[ho]at hok <;> simp only[eY]at hok|- <;> try (exact hok.elim)
 case alloc t=>exact yi hR o ho hok
 case box t x=>exact Fu hR o ho hok
 case buildSlice t n ps=>exact Ft hR o ho hok
 case store t x y=>exact vT hR o ho hok.1 hok.2.1 hok.2.2
 case convert s d x=>exact xS hR o ho hok.1 hok.2
 case makeSlice t l c=>exact Bb hR o ho hok.1 hok.2.1 hok.2.2
 case call c =>
  split at hok
  .rename_i x y t u h1 h2 h3
   exact yd hR o h1 h2 h3 ho hok.1 hok.2.1 hok.2.2
  .rename_i x tl h1 h2
   exact JK hR o h1 h2 ho hok.1 hok.2
  .rename_i x y t u h1 h2 h3
   exact Jj hR o h1 h2 h3 ho hok.1 hok.2.1 hok.2.2
  .rename_i x y t u h1 h2 h3
   exact Fm hR o ho h1 h2 h3 hok.1 hok.2.1 hok.2.2
  .exact hok.elim
 case makeMap t r =>
  cases r with
  |none=>exact ER hR o ho hok
  |some _=>exact hok.elim
 case mapUpdate t m k x=>exact wr hR o (.inl ho) hok.1 hok.2.1 hok.2.2.1 hok.2.2.2
 case insert t m k x=>exact wr hR o (.inr ho) hok.1 hok.2.1 hok.2.2.1 hok.2.2.2
end
structure Bs where
 K0:Nat->Prop
 G0:List Gh
 w0:World
def dG:List Bool->Nat->Bool
 |[],_=>false
 |b::_,0=>b
 |_::l,n+1=>dG l n
abbrev cx(P:Program)(kl:List Bool)(n:Nat)(B:Bs):Cx:=⟨P,dG kl,B.K0,B.G0,B.w0,n⟩
abbrev Qt:=Exit->dz->List Ob->Prop
def Py(C:Cx)(Q:Qt):Exit->Act->World->Prop:=fun e a w=>∃E H,Q e E H/\Rel C E H a w
def Wp(P:Program)(kl:List Bool)(n:Nat)(B:Bs)(c:Code)(Q:Qt)(E:dz)(H:List Ob):Prop :=
 B.G0.length=kl.length->∀a w,Rel (cx P kl n B) E H a w->c.wp P (Py (cx P kl n B) Q) a w
def zx(K:dz->List Ob->Prop)(Q:Qt):Qt
 |.normal,E,H=>K E H
 |e,E,H=>Q e E H
def zq(id:Nat)(Q:Qt):Qt
 |.exit i,E,H=>if i=id then Q .normal E H else Q (.exit i) E H
 |e,E,H=>Q e E H
section
variable {P:Program} {kl:List Bool} {n:Nat} {B:Bs} {Q:Qt} {E:dz} {H:List Ob}
theorem Wp.mono{c:Code}{Q':Qt}(h:Wp P kl n B c Q E H)(hq:∀e E H,Q e E H->Q' e E H):Wp P kl n B c Q' E H :=
 fun hB a w hR=>wp_mono (h hB a w hR) fun _ _ _ ⟨E',H',h1,h2⟩=>⟨E',H',hq _ _ _ h1,h2⟩
theorem Wp.skip(h:Q .normal E H):Wp P kl n B .skip Q E H:=fun _ _ _ hR=>wp_skip ⟨E,H,h,hR⟩
theorem Wp.ret(h:Q .ret E H):Wp P kl n B .ret Q E H:=fun _ _ _ hR=>wp_ret ⟨E,H,h,hR⟩
theorem Wp.exit{id:Nat}(h:Q (.exit id) E H):Wp P kl n B (.exit id) Q E H:=fun _ _ _ hR=>wp_exit ⟨E,H,h,hR⟩
theorem Wp.seq{x y:Code}(h:∀K:dz->List Ob->Prop,(∀E H,Wp P kl n B y Q E H->K E H)->Wp P kl n B x (zx K Q) E H):Wp P kl n B (.seq x y) Q E H:=by
 intro hB a w hR;refine wp_seq (wp_mono (h _ (fun _ _ h=>h) hB a w hR) ?_);intro e a' w' ⟨E',H',hq,hR'⟩
 cases e <;> first|exact hq hB a' w' hR'|exact⟨E',H',hq,hR'⟩
theorem Wp.block{id:Nat}{c:Code}(h:Wp P kl n B c (zq id Q) E H):Wp P kl n B (.block id c) Q E H:=by
 intro hB a w hR;refine wp_block (wp_mono (h hB a w hR) ?_);intro e a' w' ⟨E',H',hq,hR'⟩
 cases e with
 |exit i =>
  simp only[Exit.inBlock,zq]at hq|-;split
  .rename_i e;rw[if_pos e]at hq;exact⟨E',H',hq,hR'⟩
  .rename_i e;rw[if_neg e]at hq;exact⟨E',H',hq,hR'⟩
 |_=>exact⟨E',H',hq,hR'⟩
theorem Wp.cond{c:Operand}{x y:Code}{b:Bool}(hc:ed E c=.p (.b b))(hk:uK c)(ht:b=true->Wp P kl n B x Q E H)(hf:b=false->Wp P kl n B y Q E H):Wp P kl n B (.cond c x y) Q E H:=by
 intro hB a w hR;have hR':=hR;obtain⟨K,G,hX,hS,hE,_⟩:=hR;have:=lP hE c hk;rw[hc]at this;simp only[VR,DR]at this;exact wp_cond_split this (fun h=>ht h hB a w hR') (fun h=>hf h hB a w hR')
end
def Rg(P:Program)(kl:List Bool)(n:Nat)(B:Bs)(ops:Array Oper)(l:List Oper)(E:dz)(H:List Ob)(K:dz->List Ob->Prop):Prop :=
 B.G0.length=kl.length->∀a w (Q:Exit->Act->World->Prop),Rel (cx P kl n B) E H a w->(∀E' H' a' w',K E' H'->Rel (cx P kl n B) E' H' a' w'->Q .normal a' w')->wpList P ops Q l a w
def gv(n:Nat):Option Tmp->Prop
 |none=>True
 |some d=>d<n
def jC(ops:List Oper)(E:dz)(j:Nat)(want:Bool):Option Bool:=match ops[j]? with
 |some oj=>match oj.dst with
  |some d=>match ei E d with
   |.p (.b t)=>some (t == want)
   |.cnd c (.p (.b t))=>some (c&&(t == want))
   |_=>none
  |none=>none
 |none=>none
inductive Cl where
 |pure|eff|stop
def BM(P:Program):Op->Cl
 |.binOp .eql t _ _ _=>match dL P t with
  |.slice _ _ _ _=>.stop
  |_=>.pure
 |.binOp .neq t _ _ _=>match dL P t with
  |.slice _ _ _ _=>.stop
  |_=>.pure
 |.alloc _|.box _ _|.buildSlice _ _ _|.store _ _ _|.makeSlice _ _ _|.makeMap _ _|.mapUpdate _ _ _ _|.insert _ _ _ _=>.eff
 |.move _|.assign _|.pick _ _ _|.build _ _|.load _ _|.nilCheck _|.binOp _ _ _ _ _|.unOp _ _ _|.makeFunc _ _ _|.slice _ _ _ _ _|.fieldAddr _ _ _|.field _ _ _|.indexAddr _ _ _|.index _ _ _|.extract _ _|.lookup _ _ _ _=>.pure
 |.convert _ d _=>match dL P d with
  |.slice _ _ _ _=>.eff
  |_=>.pure
 |.call c=>match c.callee with
  |.builtin .append=>.eff
  |.builtin .delete=>.eff
  |.builtin .unsafeSliceData=>.eff
  |.builtin .unsafeString=>.eff
  |.builtin .len=>.pure
  |.builtin .cap=>.pure
  |.builtin .min=>.pure
  |.builtin .max=>.pure
  |_=>.stop
 |_=>.stop
structure Ac where
 E:dz
 H:List Ob
 ok:Prop
def JH(n:Nat)(dst:Option Tmp)(ac:Ac)(r:Pv):Ac:=⟨dV ac.E dst r.v,ac.H,ac.ok/\gv n dst/\r.ok⟩
def JI(n:Nat)(dst:Option Tmp)(ac:Ac)(g:Bool)(r:Pv):Ac:=⟨dV ac.E dst (.cnd g r.v),ac.H,ac.ok/\gv n dst/\(g=true->r.ok)⟩
def JJ(n:Nat)(dst:Option Tmp)(ac:Ac)(r:Ev):Ac:=⟨dV r.E dst r.v,r.H,ac.ok/\gv n dst/\r.ok⟩
def Fy:Ac:=⟨[],[],False⟩
def nq(P:Program)(kl:List Bool)(n:Nat)(ops:List Oper)(o:Oper)(ac:Ac):Ac:=match o.guard with
 |none=>match BM P o.op with
  |.pure=>JH n o.dst ac (eR P true ac.E ac.H o.op)
  |.eff=>JJ n o.dst ac (eY P (dG kl) ac.E ac.H o.op)
  |.stop=>Fy
 |some (j,want)=>match BM P o.op with
  |.pure=>match jC ops ac.E j want with
   |some g=>JI n o.dst ac g (eR P g ac.E ac.H o.op)
   |none=>Fy
  |_=>Fy
def me(P:Program)(o:Oper):Bool:=match BM P o.op with
 |.stop=>true
 |_=>false
inductive Rr where
 |done (ac:Ac)
 |stop (l:List Oper) (ac:Ac)
def eM(P:Program)(kl:List Bool)(n:Nat)(ops:List Oper):List Oper->Ac->Rr
 |[],ac=>.done ac
 |o::l,ac=>if me P o=true then .stop (o::l) ac else eM P kl n ops l (nq P kl n ops o ac)
def eU(P:Program)(kl:List Bool)(n:Nat)(B:Bs)(ops:Array Oper)(K:dz->List Ob->Prop):Rr->Prop
 |.done ac=>ac.ok/\K ac.E ac.H
 |.stop l ac=>ac.ok/\Rg P kl n B ops l ac.E ac.H K
section
variable {P:Program} {kl:List Bool} {n:Nat} {B:Bs} {K:dz->List Ob->Prop} {E:dz} {H:List Ob} {ops:Array Oper}
theorem zZ{dst:Option Tmp}(h:gv n dst):∀d,dst=some d->d<n:=fun d e=>by subst e;exact h
theorem Rg.nil(h:K E H):Rg P kl n B ops [] E H K:=fun _ a w _ hR hK=>hK E H a w h hR
theorem Rg.eff{o:Oper}{l:List Oper}(hg:o.guard=none)(hd:gv n o.dst)(hok:(eY P (dG kl) E H o.op).ok)(h:Rg P kl n B ops l (dV (eY P (dG kl) E H o.op).E o.dst (eY P (dG kl) E H o.op).v) (eY P (dG kl) E H o.op).H K) :
  Rg P kl n B ops (o::l) E H K:=by
 intro hB a w Q hR hK
 refine wpList_plain hg fun K' hK'=>?_
 obtain⟨c,w',hr,hR'⟩:=q0 (cx P kl n B) E H o hok a w hR;unfold Oper.wp
 rcases hr with hr|⟨hr,rfl⟩
 .rw[hr];exact hK' _ _ (h hB _ _ _ (hR'.put o.dst (zZ hd)) hK)
 .rw[hr];exact hK' _ _ (h hB _ _ _ (hR'.put o.dst (zZ hd)) hK)
theorem Rg.pure{o:Oper}{l:List Oper}(hg:o.guard=none)(hd:gv n o.dst)(hok:(eR P true E H o.op).ok)(h:Rg P kl n B ops l (dV E o.dst (eR P true E H o.op).v) H K) :
  Rg P kl n B ops (o::l) E H K:=by
 intro hB a w Q hR hK
 refine wpList_plain hg fun K' hK'=>?_
 obtain⟨Kk,G,hX,hS,hE,hdf,hn,hkp⟩:=hR;obtain⟨c,hr,hv⟩:=KV (P:=P) hS hE rfl o hok;unfold Oper.wp;rw[hr];have hRV:RelV (cx P kl n B) E H c (eR P true E H o.op).v a w:=⟨Kk,G,hX,hS,hE,hdf,hn,hkp,hv⟩;exact hK' _ _ (h hB _ _ _ (hRV.put o.dst (zZ hd)) hK)
theorem sZ{C:Cx}{a:Act}{w:World}(hR:Rel C E H a w){o:Oper}{j:Nat}{want g:Bool}(hg:o.guard=some (j,want))(hb:jC ops.toList E j want=some g):Region.wanted o (yielded ops a.tmps)=g:=by
 obtain⟨K,G,hX,hS,hE,_⟩:=hR;unfold jC at hb;split at hb
 rotate_left
 .cases hb
 rename_i oj hoj
 split at hb
 rotate_left
 .cases hb
 rename_i d hd
 have hoj':ops[j]?=some oj:=by rw[<-Array.getElem?_toList];exact hoj
 have hy:∀(t:Bool),a.tmps.getD d undef=.bool t->yielded ops a.tmps j=some t:=by
  intro t ht
  have:a.tmps[d]?=some (.bool t):=by
   rw[Array.getD_eq_getD_getElem?]at ht
   cases he:a.tmps[d]? with
   |none=>rw[he]at ht;cases ht
   |some v=>rw[he]at ht;simpa using ht
  simp[yielded,hoj',hd,this]
 have hu:a.tmps.getD d undef=undef->yielded ops a.tmps j=none:=by
  intro ht;rw[Array.getD_eq_getD_getElem?]at ht
  cases he:a.tmps[d]? with
  |none=>simp[yielded,hoj',hd,he]
  |some v=>rw[he]at ht;simp at ht;subst ht;simp[yielded,hoj',hd,he,undef]
 have hv:=hE d;split at hb
 .rename_i t ht
  cases hb;rw[ht]at hv;simp only[VR,DR]at hv;simp only[Region.wanted,hg,hy t hv]
  cases t <;> cases want <;> rfl
 .rename_i c t ht
  cases hb;rw[ht]at hv;simp only[VR,DR]at hv;cases c
  .simp only[Region.wanted,hg,hu (hv.2 rfl),Bool.false_and];rfl
  .simp only[Region.wanted,hg,hy t (hv.1 rfl),Bool.true_and]
   cases t <;> cases want <;> rfl
 .cases hb
theorem di{o:Oper}{l:List Oper}{j:Nat}{want g:Bool}(hg:o.guard=some (j,want))(hb:jC ops.toList E j want=some g)(hd:gv n o.dst)(hok:g=true->(eR P g E H o.op).ok)(h:Rg P kl n B ops l (dV E o.dst (.cnd g (eR P g E H o.op).v)) H K) :
  Rg P kl n B ops (o::l) E H K:=by
 intro hB a w Q hR hK;have hw:=sZ hR hg hb
 refine wpList_step fun K' hK'=>?_
 have hR':=hR;obtain⟨Kk,G,hX,hS,hE,hdf,hn,hkp⟩:=hR'
 cases g with
 |true =>
  rw[if_pos hw];obtain⟨c,hr,hv⟩:=KV (P:=P) hS hE rfl o (hok rfl);unfold Oper.wp;rw[hr];have hRV:RelV (cx P kl n B) E H c (.cnd true (eR P true E H o.op).v) a w:=⟨Kk,G,hX,hS,hE,hdf,hn,hkp,by simp only[VR];exact⟨fun _=>hv,fun e=>Bool.noConfusion e⟩⟩;exact hK' _ _ (h hB _ _ _ (hRV.put o.dst (zZ hd)) hK)
 |false =>
  rw[if_neg (by rw[hw];simp)];have hRV:RelV (cx P kl n B) E H undef (.cnd false (eR P false E H o.op).v) a w:=⟨Kk,G,hX,hS,hE,hdf,hn,hkp,by simp[VR]⟩;exact hK' _ _ (h hB _ _ _ (hRV.put o.dst (zZ hd)) hK)
theorem tC{o:Oper}{ac:Ac}{os:List Oper}(h:(nq P kl n os o ac).ok):ac.ok:=by
 unfold nq at h;split at h
 .split at h
  .exact h.1
  .exact h.1
  .exact h.elim
 .split at h
  .split at h
   .exact h.1
   .exact h.elim
  .exact h.elim
theorem AR{o:Oper}{l:List Oper}{ac:Ac}(hok:(nq P kl n ops.toList o ac).ok)(h:Rg P kl n B ops l (nq P kl n ops.toList o ac).E (nq P kl n ops.toList o ac).H K):Rg P kl n B ops (o::l) ac.E ac.H K:=by
 unfold nq at hok h;split at hok
 .rename_i hg
  simp only[hg]at h;split at hok
  .rename_i hc;simp only[hc]at h;exact Rg.pure hg hok.2.1 hok.2.2 h
  .rename_i hc;simp only[hc]at h;exact Rg.eff hg hok.2.1 hok.2.2 h
  .exact hok.elim
 .rename_i j want hg
  simp only[hg]at h;split at hok
  .rename_i hc
   simp only[hc]at h;split at hok
   .rename_i g hb;simp only[hb]at h;exact di hg hb hok.2.1 hok.2.2 h
   .exact hok.elim
  .exact hok.elim
theorem P0:∀{l:List Oper} {ac:Ac} {os:List Oper},eU P kl n B ops K (eM P kl n os l ac)->ac.ok
 |[],ac,os,h=>h.1
 |o::l,ac,os,h=>by
  unfold eM at h;split at h
  .exact h.1
  .exact tC (P0 h)
theorem cY:∀{l:List Oper} {ac:Ac},eU P kl n B ops K (eM P kl n ops.toList l ac)->Rg P kl n B ops l ac.E ac.H K
 |[],ac,h=>Rg.nil h.2
 |o::l,ac,h=>by
  unfold eM at h;split at h
  .exact h.2
  .exact AR (P0 h) (cY h)
theorem Rg.run{l:List Oper}(h:eU P kl n B ops K (eM P kl n ops.toList l ⟨E,H,True⟩)):Rg P kl n B ops l E H K:=cY h
theorem Wp.region{id:Nat}{l:List Oper}{Q:Qt}(h:∀K:dz->List Ob->Prop,(∀E H,Q .normal E H->K E H)->eU P kl n B l.toArray K (eM P kl n l l ⟨E,H,True⟩)):Wp P kl n B (.region id l.toArray false) Q E H:=by
 intro hB a w hR;refine wp_region_lit ?_;have:=Rg.run (ops:=l.toArray) (l:=l) (h (Q .normal) (fun _ _ h=>h))
 exact this hB a w _ hR fun E' H' a' w' h1 h2=>⟨E',H',h1,h2⟩
end
mutual
def gn:Va->Va->Prop
 |v,.top=>v=v
 |.nils,.p (.l rows)=>rows=[]
 |.nils,.nils=>True
 |.full r,.p (.l rows)=>r=rows
 |.full r,.full rows=>r=rows
 |.p x,.p y=>x=y
 |.rp x,.rp y=>x=y
 |.ptr o a,.ptr o' a'=>o=o'/\a=a'
 |.cs o a,.cs o' a'=>o=o'/\a=a'
 |.el o s i a,.el o' s' i' a'=>o=o'/\s=s'/\i=i'/\a=a'
 |.buf o,.buf o'=>o=o'
 |.mp o,.mp o'=>o=o'
 |.np o,.np o'=>o=o'
 |.sd o,.sd o'=>o=o'
 |.vw o s a n,.vw o' s' a' n'=>o=o'/\s=s'/\a=a'/\n=n'
 |.bufc o c,.bufc o' c'=>o=o'/\c=c'
 |.bufc o _,.buf o'=>o=o'
 |.nil,.np _=>True
 |.ptr o a,.np o'=>o=o'/\a=0
 |.nil,.nil=>True
 |.agg xs,.agg ys=>oh xs ys
 |.tup xs,.tup ys=>oh xs ys
 |.fn f xs,.fn g ys=>f=g/\oh xs ys
 |.raw x,.raw y=>x=y
 |.er x,.er y=>x=y
 |_,_=>False
def oh:List Va->List Va->Prop
 |[],[]=>True
 |x::xs,y::ys=>gn x y/\oh xs ys
 |_,_=>False
end
section
variable {K:Nat->Prop} {h:Array Obj} {G:List Gh}
mutual
theorem i6:∀{c:Value} {v v':Va},gn v v'->VR K h G c v->VR K h G c v'
 |c,v,.top,_,_=>by simp[VR]
 |c,.nils,.p (.l rows),hl,hv=>by simp only[gn]at hl;subst hl;simp only[VR,DR]at *;exact .inl ⟨⟨none,hv⟩,trivial⟩
 |c,.nils,.nils,_,hv=>hv
 |c,.full r,.p (.l rows),hl,hv=>by simp only[gn]at hl;subst hl;simp only[VR]at *;exact hv.1
 |c,.full r,.full rows,hl,hv=>by simp only[gn]at hl;subst hl;exact hv
 |c,.p x,.p y,hl,hv=>by
  have:x=y:=by cases y <;> simpa only[gn]using hl
  subst this;exact hv
 |c,.rp x,.rp y,hl,hv=>by simp only[gn]at hl;subst hl;exact hv
 |c,.ptr o a,.ptr o' a',hl,hv=>by simp only[gn]at hl;obtain⟨rfl,rfl⟩:=hl;exact hv
 |c,.cs o a,.cs o' a',hl,hv=>by simp only[gn]at hl;obtain⟨rfl,rfl⟩:=hl;exact hv
 |c,.el o s i a,.el o' s' i' a',hl,hv=>by simp only[gn]at hl;obtain⟨rfl,rfl,rfl,rfl⟩:=hl;exact hv
 |c,.buf o,.buf o',hl,hv=>by simp only[gn]at hl;subst hl;exact hv
 |c,.mp o,.mp o',hl,hv=>by simp only[gn]at hl;subst hl;exact hv
 |c,.np o,.np o',hl,hv=>by simp only[gn]at hl;subst hl;exact hv
 |c,.sd o,.sd o',hl,hv=>by simp only[gn]at hl;subst hl;exact hv
 |c,.vw o s a n,.vw o' s' a' n',hl,hv=>by simp only[gn]at hl;obtain⟨rfl,rfl,rfl,rfl⟩:=hl;exact hv
 |c,.bufc o a,.bufc o' a',hl,hv=>by simp only[gn]at hl;obtain⟨rfl,rfl⟩:=hl;exact hv
 |c,.bufc o a,.buf o',hl,hv=>by simp only[gn]at hl;subst hl;simp only[VR]at *;obtain⟨g,a,n,cap,h1,h2,h3,_⟩:=hv;exact⟨g,h1,h3,a,n,cap,h2⟩
 |c,.nil,.np o',_,hv=>by simp only[VR]at *;exact .inl hv
 |c,.ptr o a,.np o',hl,hv=>by simp only[gn]at hl;obtain⟨rfl,rfl⟩:=hl;simp only[VR]at *;exact .inr hv
 |c,.nil,.nil,_,hv=>hv
 |c,.agg xs,.agg ys,hl,hv=>by
  simp only[gn,VR]at *;obtain⟨cs,h1,h2⟩:=hv;exact⟨cs,h1,Hh hl h2⟩
 |c,.tup xs,.tup ys,hl,hv=>by
  simp only[gn,VR]at *;obtain⟨cs,h1,h2⟩:=hv;exact⟨cs,h1,Hh hl h2⟩
 |c,.fn f xs,.fn g ys,hl,hv=>by
  simp only[gn,VR]at *;obtain⟨rfl,hl⟩:=hl;obtain⟨cs,h1,h2⟩:=hv;exact⟨cs,h1,Hh hl h2⟩
 |c,.raw x,.raw y,hl,hv=>by simp only[gn]at hl;subst hl;exact hv
 |c,.er x,.er y,hl,hv=>by simp only[gn]at hl;subst hl;exact hv
 |c,v,.cnd b x,hl,_=>by cases v <;> simp[gn]at hl
theorem Hh:∀{cs:List Value} {vs vs':List Va},oh vs vs'->VRs K h G cs vs->VRs K h G cs vs'
 |cs,[],[],_,hv=>hv
 |cs,x::xs,y::ys,hl,hv=>by
  simp only[oh,VRs]at *;obtain⟨c,cs',h1,h2,h3⟩:=hv;exact⟨c,cs',h1,i6 hl.1 h2,Hh hl.2 h3⟩
end
end
def JV(E:dz):dz->Prop
 |[]=>True
 |(k,v)::E'=>gn (ei E k) v/\JV E E'
def tQ:Ob->Ob->Prop
 |.cells T vs,.cells T' vs'=>T=T'/\oh vs vs'
 |.buf T sz r,.buf T' sz' r'=>T=T'/\sz=sz'/\r=r'
 |.fx T sz r,.fx T' sz' r'=>T=T'/\sz=sz'/\r=r'
 |.sb T r,.sb T' r'=>T=T'/\r=r'
 |.mp ag es,.mp ag' es'=>ag=ag'/\es=es'
 |.mpb ag es bs cl,.mpb ag' es' bs' cl'=>ag=ag'/\es=es'/\bs=bs'/\cl=cl'
 |.mpb ag es _ _,.mp ag' es'=>ag=ag'/\es=es'
 |.it o cl s,.it o' cl' s'=>o=o'/\cl=cl'/\s=s'
 |.it _ _ _,.gone=>True
 |.sb _ _,.gone=>True
 |.buf _ _ _,.gone=>True
 |.gone,.gone=>True
 |_,_=>False
def yZ:List Ob->List Ob->Prop
 |_,[]=>True
 |x::H,y::H'=>tQ x y/\yZ H H'
 |[],_::_=>False
def yk(f:Nat->Bool):dz->Bool
 |[]=>true
 |(_,v)::E=>v.all f&&yk f E
def iv(f:Nat->Bool):List Ob->Bool
 |[]=>true
 |x::H=>x.all f&&iv f H
def fG(kl:List Bool)(E:dz)(H:List Ob)(E':dz)(H':List Ob):Prop :=
 JV E E'/\yZ H H'/\kl.length<=H'.length/\yk (fun o=>decide (o<H'.length)) E'=true/\iv (fun o=>decide (o<H'.length)) H'=true
theorem Ng{x y:Ob}(h:tQ x y)(hk:x.kept=true):y.kept=true:=by
 cases x <;> cases y <;> simp_all[tQ,Ob.kept]
theorem r9{E:dz}:∀{E':dz},JV E E'->∀m,ei E' m=.top∨gn (ei E m) (ei E' m)
 |[],_,m=>.inl rfl
 |(k,v)::E',h,m=>by
  simp only[JV]at h;simp only[ei];split
  .rename_i e;subst e;exact .inr h.1
  .exact r9 h.2 m
theorem px{f:Nat->Bool}:∀{E:dz},yk f E=true->∀m,(ei E m).all f=true
 |[],_,m=>rfl
 |(k,v)::E,h,m=>by
  simp only[yk,Bool.and_eq_true]at h;simp only[ei];split
  .exact h.1
  .exact px h.2 m
theorem FQ:∀{H H':List Ob},yZ H H'->∀(o:Nat) (y:Ob),H'[o]?=some y->∃x,H[o]?=some x/\tQ x y
 |_,[],_,o,y,h=>by simp at h
 |[],y::H',hl,_,_,_=>by simp[yZ]at hl
 |x::H,y::H',hl,o,z,h=>by
  simp only[yZ]at hl
  cases o with
  |zero=>simp at h;subst h;exact⟨x,rfl,hl.1⟩
  |succ o=>simpa using FQ hl.2 o z (by simpa using h)
theorem MU{f:Nat->Bool}:∀{H:List Ob},iv f H=true->∀(o:Nat) (y:Ob),H[o]?=some y->y.all f=true
 |[],_,o,y,h=>by simp at h
 |x::H,ha,o,y,h=>by
  simp only[iv,Bool.and_eq_true]at ha
  cases o with
  |zero=>simp at h;subst h;exact ha.1
  |succ o=>exact MU ha.2 o y (by simpa using h)
theorem ET{K:Nat->Prop}{h:Array Obj}{G:List Gh}{g:Gh}:∀{x y:Ob},tQ x y->ObR K h G g x->ObR K h G g y
 |.cells T vs,.cells _ vs',⟨rfl,hl⟩,⟨b,cs,h1,h2,h3⟩=>⟨b,cs,h1,h2,Hh hl h3⟩
 |.buf T sz r,.buf T' sz' r',hl,hx=>by simp only[tQ]at hl;obtain⟨rfl,rfl,rfl⟩:=hl;exact hx
 |.fx T sz r,.fx T' sz' r',hl,hx=>by simp only[tQ]at hl;obtain⟨rfl,rfl,rfl⟩:=hl;exact hx
 |.mp _ _,.mp _ _,hl,hx=>by simp only[tQ]at hl;obtain⟨rfl,rfl⟩:=hl;exact hx
 |.mpb _ _ _ _,.mpb _ _ _ _,hl,hx=>by simp only[tQ]at hl;obtain⟨rfl,rfl,rfl,rfl⟩:=hl;exact hx
 |.mpb _ _ _ _,.mp _ _,hl,hx=>by
  simp only[tQ]at hl;obtain⟨rfl,rfl⟩:=hl;obtain⟨h0,b,mes,h1,h2,h3,h4,_⟩:=hx;exact⟨h0,b,mes,_,h1,h2,h3,h4⟩
 |.it _ _ _,.it _ _ _,hl,hx=>by simp only[tQ]at hl;obtain⟨rfl,rfl,rfl⟩:=hl;exact hx
 |.it _ _ _,.gone,_,_=>trivial
 |.sb T r,.sb T' r',hl,hx=>by simp only[tQ]at hl;obtain⟨rfl,rfl⟩:=hl;exact hx
 |.buf _ _ _,.gone,_,_=>trivial
 |.sb _ _,.gone,_,_=>trivial
 |.gone,.gone,_,hx=>hx
theorem St.cut{K:Nat->Prop}{G:List Gh}{H H':List Ob}{w:World}(hS:St K G H w)(hl:yZ H H')(ha:iv (fun o=>decide (o<H'.length)) H'=true):St K (G.take H'.length) H' w:=by
 have hlen:H'.length<=H.length:=by
  rcases Nat.eq_zero_or_pos H'.length with h0|hp
  .omega
  .obtain⟨x,hx,_⟩:=FQ hl (H'.length-1) _ (getElem?_eq_getElem (by omega))
   have:=(List.getElem?_eq_some_iff.1 hx).1;omega
 have sub:∀{o:Nat} {g:Gh},(G.take H'.length)[o]?=some g->G[o]?=some g:=fun {o g} h=>by
  rw[getElem?_take]at h;split at h
  .exact h
  .cases h
 have hMg:Mg (fun o=>decide (o<H'.length)) G (G.take H'.length):=fun o g ho hg=>by rw[getElem?_take,if_pos (by simpa using ho)];exact hg
 refine⟨by rw[length_take,hS.len];omega,hS.kb,fun o g b hg=>hS.gb o g b (sub hg),fun o o' g g' b hg hg'=>hS.inj o o' g g' b (sub hg) (sub hg'),fun o g y hg hy=>?_,hS.tb⟩;obtain⟨x,hx,hle⟩:=FQ hl o y hy;have hob:=ET hle (hS.ob o g x (sub hg) hx);have hall:=MU ha o y hy;exact ObR.keep ⟨fun _ h=>h,fun _ _=>rfl⟩ hMg (fun _ _=>rfl) hall hob
theorem B3:∀{kl:List Bool} {o:Nat},dG kl o=true->o<kl.length
 |[],o,h=>by simp[dG]at h
 |b::kl,0,_=>by simp
 |b::kl,o+1,h=>by simp only[dG]at h;simpa using B3 h
section
variable {P:Program} {kl:List Bool} {n:Nat} {B:Bs} {Q:Qt} {E:dz} {H:List Ob} {a:Act} {w:World}
theorem Rel.cut{E':dz}{H':List Ob}(hB:B.G0.length=kl.length)(h:Rel (cx P kl n B) E H a w)(hw:fG kl E H E' H'):Rel (cx P kl n B) E' H' a w:=by
 obtain⟨K,G,hX,hS,hE,hd,hn,hk⟩:=h;obtain⟨h1,h2,h3,h4,h5⟩:=hw
 have hMg:Mg (fun o=>decide (o<H'.length)) G (G.take H'.length):=fun o g ho hg=>by rw[getElem?_take,if_pos (by simpa using ho)];exact hg
 refine⟨K,G.take H'.length,hX.cut (by rw[hB];exact h3),hS.cut h2 h5,fun m=>?_,hd,hn,fun o ho=>?_⟩
 .rcases r9 h1 m with e|e
  .rw[e];simp[VR]
  .exact VR.keep ⟨fun _ h=>h,fun _ _=>rfl⟩ hMg _ _ (px h4 m) (i6 e (hE m))
 .obtain⟨vs,hvs,hkt⟩:=hk o ho
  have:o<H'.length:=Nat.lt_of_lt_of_le (B3 ho) h3;obtain⟨x,hx,hle⟩:=FQ h2 o _ (getElem?_eq_getElem this)
  rw[hvs]at hx;cases hx
  exact⟨_,getElem?_eq_getElem this,Ng hle hkt⟩
theorem Wp.weak{c:Code}{E':dz}{H':List Ob}(hw:fG kl E H E' H')(h:Wp P kl n B c Q E' H'):Wp P kl n B c Q E H:=fun hB a w hR=>h hB a w (Rel.cut hB hR hw)
theorem Wp.loop{S:Type}(live:S->dz)(objs:S->List Ob)(inv:S->Prop)(mu:S->Nat){c:Code}(s0:S)(h0:fG kl E H (live s0) (objs s0))(hi:inv s0)
  (round:∀s,inv s->Wp P kl n B c (zx (fun E' H'=>∃s',inv s'/\mu s'<mu s/\fG kl E' H' (live s') (objs s')) Q) (live s) (objs s)):Wp P kl n B (.loop c) Q E H:=by
 intro hB a w hR;refine wp_loop_ghost (fun m a w=>∃s,mu s=m/\inv s/\Rel (cx P kl n B) (live s) (objs s) a w) (mu s0) ⟨s0,rfl,hi,Rel.cut hB hR h0⟩ ?_;intro m a w ⟨s,hm,hs,hR⟩;refine wp_mono (round s hs hB a w hR) ?_;intro e a' w' ⟨E',H',hq,hR'⟩
 cases e with
 |normal =>
  obtain⟨s',hs',hlt,hw⟩:=hq;exact⟨mu s',hm ▸ hlt,s',rfl,hs',Rel.cut hB hR' hw⟩
 |_=>exact⟨E',H',hq,hR'⟩
mutual
def uE:Dt->Prop
 |.b _=>True
 |.i k n=>Fits k n
 |.s x=>x.length<=dJ
 |.l rows=>rows.length<=dJ/\FI rows
 |.a ds=>lj ds
def lj:List Dt->Prop
 |[]=>True
 |d::ds=>uE d/\lj ds
def FI:List (List Dt)->Prop
 |[]=>True
 |r::rs=>lj r/\FI rs
end
mutual
def Va.ok:Va->Prop
 |.p x=>uE x
 |.full rows=>uE (.l rows)
 |.rp row=>lj row
 |.agg vs|.tup vs=>cL vs
 |_=>True
def cL:List Va->Prop
 |[]=>True
 |v::vs=>v.ok/\cL vs
end
def Ob.ok:Ob->Prop
 |.cells _ vs=>cL vs
 |.buf _ _ rows=>rows.length<=dJ/\FI rows
 |.fx _ _ rows=>rows.length<=dJ/\FI rows
 |.mp _ es=>es.length<=dJ
 |.mpb _ es _ _=>es.length<=dJ
 |.it _ _ _=>True
 |.sb _ bs=>bs.length<=dJ
 |.gone=>True
end
section
variable {K:Nat->Prop} {h:Array Obj} {G:List Gh}
mutual
theorem DR.ok:∀{c:Value} {d:Dt},DR K h c d->uE d
 |_,.b _,_=>trivial
 |_,.i _ _,H=>by simp only[DR]at H;exact H.2
 |_,.s _,H=>by simp only[DR]at H;exact H.2
 |_,.l rows,H=>by
  simp only[DR]at H;simp only[uE]
  rcases H with⟨_,rfl⟩|⟨b,off,cap,cs,T,fr,sz,vs,_,_,_,_,hl,_,hd⟩
  .exact⟨by simp,by simp only[FI]⟩
  .exact⟨hl,DRss.ok hd⟩
 |_,.a ds,H=>by simp[DR]at H
theorem DRs.ok:∀{cs:List Value} {ds:List Dt},DRs K h cs ds->lj ds
 |_,[],_=>trivial
 |_,d::ds,H=>by
  simp only[DRs]at H;obtain⟨v,vs',_,h2,h3⟩:=H;exact⟨DR.ok h2,DRs.ok h3⟩
theorem DRss.ok{sz:Nat}:∀{cs:List Value} {rs:List (List Dt)},DRss K h sz cs rs->FI rs
 |_,[],_=>trivial
 |_,r::rs,H=>by
  simp only[DRss]at H;obtain⟨a,b,_,_,h3,h4⟩:=H;exact⟨DRs.ok h3,DRss.ok h4⟩
end
mutual
theorem VR.ok:∀{c:Value} {v:Va},VR K h G c v->v.ok
 |_,.p x,H=>by simp only[VR]at H;exact DR.ok H
 |_,.full rows,H=>by simp only[VR]at H;exact DR.ok H.1
 |_,.rp row,H=>by simp only[VR]at H;obtain⟨_,_,_,_,_,_,_,_,_,_,hd⟩:=H;exact DRs.ok hd
 |_,.agg vs,H=>by simp only[VR]at H;obtain⟨_,_,hv⟩:=H;exact VRs.ok hv
 |_,.tup vs,H=>by simp only[VR]at H;obtain⟨_,_,hv⟩:=H;exact VRs.ok hv
 |_,.nils,_|_,.ptr _ _,_|_,.cs _ _,_|_,.el _ _ _ _,_|_,.buf _,_|_,.mp _,_|_,.np _,_|_,.sd _,_|_,.vw _ _ _ _,_|_,.bufc _ _,_|_,.fn _ _,_|_,.nil,_|_,.cnd _ _,_|_,.raw _,_|_,.er _,_|_,.top,_=>trivial
theorem VRs.ok:∀{cs:List Value} {vs:List Va},VRs K h G cs vs->cL vs
 |_,[],_=>trivial
 |_,v::vs,H=>by
  simp only[VRs]at H;obtain⟨c,cs',_,h2,h3⟩:=H;exact⟨VR.ok h2,VRs.ok h3⟩
end
end
section
variable {P:Program} {kl:List Bool} {n:Nat} {B:Bs} {Q:Qt} {E:dz} {H:List Ob}
theorem dk{c:Code}(k:Nat)(h:(ei E k).ok->Wp P kl n B c Q E H):Wp P kl n B c Q E H:=by
 intro hB a w hR;have hR':=hR;obtain⟨K,G,_,_,hE,_⟩:=hR';exact h (VR.ok (hE k)) hB a w hR
end
variable [Tabs]
def Ca (P:Program) (f:FuncId):Prop:=∃fn,P.funcs[f]?=some fn/\(fn.name == "runtime.NumGoroutine")=false/\fn.body.isNone=false
def kinds:List Ob->List Bool
 |[]=>[]
 |x::X=>x.kept::kinds X
theorem OL:∀X:List Ob,(kinds X).length=X.length
 |[]=>rfl
 |x::X=>by simp[kinds,OL X]
theorem kL:∀{X:List Ob} {o:Nat},dG (kinds X) o=true->∃x,X[o]?=some x/\x.kept=true
 |[],o,h=>by simp[kinds,dG]at h
 |x::X,0,h=>⟨x,rfl,by simpa [kinds,dG]using h⟩
 |x::X,o+1,h=>by simp only[kinds,dG]at h;simpa using kL h
theorem Du(X:List Ob):fE (dG (kinds X)) X:=fun _ h=>kL h
def Does(P:Program)(f:FuncId)(args:List Va)(X:List Ob)(Post:Va->List Ob->Prop):Prop :=
 Ca P f/\∀K G w vals,St K G X w->VRs K w.heap G vals args ->
  Calls P f vals.toArray w fun e w'=>∃c r X' K' G',e=.returned c/\Post r X'/\Ext (dG (kinds X)) K G w K' G' w'/\St K' G' X' w'/\VR K' w'.heap G' c r/\fE (dG (kinds X)) X'
mutual
def gJ(m:Nat)(H:List Ob):Va->Va
 |.buf o=>if o<m then .buf o else match dT H o with
  |.buf _ _ rows=>.p (.l rows)
  |_=>.top
 |.agg vs=>.agg (y8 m H vs)
 |.tup vs=>.tup (y8 m H vs)
 |.fn f vs=>.fn f (y8 m H vs)
 |v=>v
def y8(m:Nat)(H:List Ob):List Va->List Va
 |[]=>[]
 |v::vs=>gJ m H v::y8 m H vs
end
def EK(m:Nat)(H:List Ob):Ob->Ob
 |.cells T vs=>.cells T (y8 m H vs)
 |x=>x
def gl(m:Nat)(H:List Ob):List Ob->List Ob
 |[]=>[]
 |x::X=>EK m H x::gl m H X
def qB(P:Program)(E:dz)(H:List Ob):ResultVar->Pv
 |.tmp t=>⟨ei E t,True⟩
 |.cell a T=>match dM P T with
  |some ti=>kI ti H (ei E a)
  |none=>dD
def iX(P:Program)(E:dz)(H:List Ob):List ResultVar->List Va×Prop
 |[]=>([],True)
 |r::rs=>((qB P E H r).v::(iX P E H rs).1,(qB P E H r).ok/\(iX P E H rs).2)
def gI(P:Program)(E:dz)(H:List Ob)(rs:List ResultVar):Pv:=match rs with
 |[r]=>qB P E H r
 |rs=>⟨.tup (iX P E H rs).1,(iX P E H rs).2⟩
def ib(P:Program)(rs:List ResultVar)(m:Nat)(kl:List Bool)(Post:Va->List Ob->Prop)(E:dz)(H:List Ob):Prop :=
 (gI P E H rs).ok/\kl.length<=m/\m<=H.length/\(gJ m H (gI P E H rs).v).all (fun o=>decide (o<m))=true/\iv (fun o=>decide (o<m)) (gl m H (H.take m))=true /\
  ∃r X,gn (gJ m H (gI P E H rs).v) r/\yZ (gl m H (H.take m)) X/\X.length=m/\r.all (fun o=>decide (o<m))=true/\iv (fun o=>decide (o<m)) X=true/\Post r X
def qA(P:Program)(rs:List ResultVar)(m:Nat)(kl:List Bool)(Post:Va->List Ob->Prop):Qt
 |.normal,E,H=>ib P rs m kl Post E H
 |.ret,E,H=>ib P rs m kl Post E H
 |_,_,_=>False
section
variable {K:Nat->Prop} {G:List Gh} {H:List Ob} {w:World} {P:Program}
def B7(K:Nat->Prop)(G:List Gh)(H:List Ob)(m:Nat)(b:Nat):Prop:=K b∨∃o g,m<=o/\G[o]?=some g/\g.blk=some b/\∃T sz rows,H[o]?=some (.buf T sz rows)
theorem mD(hS:St K G H w){o:Nat}{T:TypeId}{sz:Nat}{rows:List (List Dt)}(ho:H[o]?=some (.buf T sz rows)){g:Gh}(hg:G[o]?=some g){K':Nat->Prop}(hK:∀b,K b->K' b)(hb:∀b,g.blk=some b->K' b):DR K' w.heap g.sv (.l rows):=by
 obtain⟨hlim,xs,hxs,hh⟩:=hS.ob o g _ hg ho;simp only[DR]
 rcases hh with⟨h1,h2,_⟩|⟨b,cap,cur,fr,h1,h2,h3,h4,h5,h6,h7,h8⟩
 .exact .inl ⟨h1,h2⟩
 .refine .inr ⟨b,0,cap,cur,T,fr,sz,xs,h1,hb b h2,h3,h5,hlim,fun j v hj=>?_,DRss.mono ⟨hK,fun _ _=>rfl⟩ _ _ _ hxs⟩
  rw[<-h8,getElem?_take]at hj;split at hj
  .rw[Nat.zero_add,<-Array.getElem?_toList];exact hj
  .cases hj
mutual
theorem lW(hS:St K G H w)(m:Nat):∀{c:Value} {v:Va},VR K w.heap G c v->VR (B7 K G H m) w.heap G c (gJ m H v)
 |c,.p x,h=>VR.grow (K:=K) ⟨fun _ h=>.inl h,fun _ _=>rfl⟩ (fun _ _ h=>h) c (.p x) h
 |c,.nils,h=>VR.grow (K:=K) ⟨fun _ h=>.inl h,fun _ _=>rfl⟩ (fun _ _ h=>h) c .nils h
 |c,.full rows,h=>VR.grow (K:=K) ⟨fun _ h=>.inl h,fun _ _=>rfl⟩ (fun _ _ h=>h) c (.full rows) h
 |c,.rp row,h=>VR.grow (K:=K) ⟨fun _ h=>.inl h,fun _ _=>rfl⟩ (fun _ _ h=>h) c (.rp row) h
 |c,.ptr o a,h=>VR.grow (K:=K) ⟨fun _ h=>.inl h,fun _ _=>rfl⟩ (fun _ _ h=>h) c (.ptr o a) h
 |c,.cs o a,h=>VR.grow (K:=K) ⟨fun _ h=>.inl h,fun _ _=>rfl⟩ (fun _ _ h=>h) c (.cs o a) h
 |c,.el o s i a,h=>VR.grow (K:=K) ⟨fun _ h=>.inl h,fun _ _=>rfl⟩ (fun _ _ h=>h) c (.el o s i a) h
 |c,.np o,h=>VR.grow (K:=K) ⟨fun _ h=>.inl h,fun _ _=>rfl⟩ (fun _ _ h=>h) c (.np o) h
 |c,.sd o,h=>VR.grow (K:=K) ⟨fun _ h=>.inl h,fun _ _=>rfl⟩ (fun _ _ h=>h) c (.sd o) h
 |c,.vw o s a n,h=>VR.grow (K:=K) ⟨fun _ h=>.inl h,fun _ _=>rfl⟩ (fun _ _ h=>h) c (.vw o s a n) h
 |c,.bufc o s,h=>VR.grow (K:=K) ⟨fun _ h=>.inl h,fun _ _=>rfl⟩ (fun _ _ h=>h) c (.bufc o s) h
 |c,.mp o,h=>VR.grow (K:=K) ⟨fun _ h=>.inl h,fun _ _=>rfl⟩ (fun _ _ h=>h) c (.mp o) h
 |c,.nil,h=>VR.grow (K:=K) ⟨fun _ h=>.inl h,fun _ _=>rfl⟩ (fun _ _ h=>h) c .nil h
 |c,.cnd t v,h=>VR.grow (K:=K) ⟨fun _ h=>.inl h,fun _ _=>rfl⟩ (fun _ _ h=>h) c (.cnd t v) h
 |c,.raw v,h=>VR.grow (K:=K) ⟨fun _ h=>.inl h,fun _ _=>rfl⟩ (fun _ _ h=>h) c (.raw v) h
 |c,.er v,h=>VR.grow (K:=K) ⟨fun _ h=>.inl h,fun _ _=>rfl⟩ (fun _ _ h=>h) c (.er v) h
 |c,.top,h=>VR.grow (K:=K) ⟨fun _ h=>.inl h,fun _ _=>rfl⟩ (fun _ _ h=>h) c .top h
 |c,.buf o,h=>by
  simp only[gJ];split
  .exact VR.grow (K:=K) ⟨fun _ h=>.inl h,fun _ _=>rfl⟩ (fun _ _ h=>h) c (.buf o) h
  .rename_i hm
   split
   .rename_i T sz rows hob
    have ho:=zJ hob (by simp);simp only[VR]at h;obtain⟨g,hg,rfl,_⟩:=h;simp only[VR];exact mD hS ho hg (fun _ h=>.inl h) (fun b hb=>.inr ⟨o,g,by omega,hg,hb,T,sz,rows,ho⟩)
   .simp[VR]
 |c,.agg vs,h=>by simp only[gJ,VR]at *;obtain⟨cs,h1,h2⟩:=h;exact⟨cs,h1,HL hS m h2⟩
 |c,.tup vs,h=>by simp only[gJ,VR]at *;obtain⟨cs,h1,h2⟩:=h;exact⟨cs,h1,HL hS m h2⟩
 |c,.fn f vs,h=>by simp only[gJ,VR]at *;obtain⟨cs,h1,h2⟩:=h;exact⟨cs,h1,HL hS m h2⟩
theorem HL(hS:St K G H w)(m:Nat):∀{cs:List Value} {vs:List Va},VRs K w.heap G cs vs->VRs (B7 K G H m) w.heap G cs (y8 m H vs)
 |cs,[],h=>by simpa only[y8,VRs]using h
 |cs,v::vs,h=>by
  simp only[y8,VRs]at *;obtain⟨c,cs',h1,h2,h3⟩:=h;exact⟨c,cs',h1,lW hS m h2,HL hS m h3⟩
end
theorem Lf(m:Nat)(H':List Ob):∀{X:List Ob} {o:Nat} {y:Ob},(gl m H' X)[o]?=some y->∃x,X[o]?=some x/\y=EK m H' x
 |[],o,y,h=>by simp[gl]at h
 |x::X,0,y,h=>by simp[gl]at h;exact⟨x,rfl,h.symm⟩
 |x::X,o+1,y,h=>by simp only[gl,getElem?_cons_succ]at h|-;exact Lf m H' h
theorem QW(m:Nat)(H':List Ob):∀X:List Ob,(gl m H' X).length=X.length
 |[]=>rfl
 |x::X=>by simp[gl,QW m H' X]
theorem St.out(hS:St K G H w){m:Nat}(ha:iv (fun o=>decide (o<m)) (gl m H (H.take m))=true):St (B7 K G H m) (G.take m) (gl m H (H.take m)) w:=by
 have sub:∀{o:Nat} {g:Gh},(G.take m)[o]?=some g->o<m/\G[o]?=some g:=fun {o g} h=>by
  rw[getElem?_take]at h;split at h
  .exact⟨by assumption,h⟩
  .cases h
 have hMg:Mg (fun o=>decide (o<m)) G (G.take m):=fun o g ho hg=>by rw[getElem?_take,if_pos (by simpa using ho)];exact hg
 refine⟨by rw[QW,length_take,length_take,hS.len],fun b hb=>?_,fun o g b hg hb=>?_,fun o o' g g' b hg hg'=>hS.inj o o' g g' b (sub hg).2 (sub hg').2,fun o g y hg hy=>?_,hS.tb.mono ⟨fun _ h=>.inl h,fun _ _=>rfl⟩⟩
 .rcases hb with hb|⟨o,g,_,hg,hb,_⟩
  .exact hS.kb b hb
  .exact(hS.gb o g b hg hb).1
 .refine⟨(hS.gb o g b (sub hg).2 hb).1,fun hk=>?_⟩
  rcases hk with hk|⟨o',g',hm',hg',hb',_⟩
  .exact(hS.gb o g b (sub hg).2 hb).2 hk
  .have:=hS.inj o o' g g' b (sub hg).2 hg' hb hb'
   have:=(sub hg).1;omega
 .obtain⟨x,hx,rfl⟩:=Lf m H hy
  have hx':H[o]?=some x:=by
   rw[getElem?_take]at hx;split at hx
   .exact hx
   .cases hx
  have hob:=hS.ob o g x (sub hg).2 hx';have hall:=MU ha o _ hy
  cases x with
  |cells T vs =>
   obtain⟨b,cs,h1,h2,h3⟩:=hob;exact⟨b,cs,h1,h2,VRs.keep ⟨fun _ h=>h,fun _ _=>rfl⟩ hMg _ _ hall (HL hS m h3)⟩
  |buf T sz rows=>exact ObR.keep (K:=K) ⟨fun _ h=>.inl h,fun _ _=>rfl⟩ hMg (fun _ _=>rfl) hall hob
  |fx T sz rows=>exact ObR.keep (K:=K) ⟨fun _ h=>.inl h,fun _ _=>rfl⟩ hMg (fun _ _=>rfl) hall hob
  |sb T bs=>exact ObR.keep (K:=K) ⟨fun _ h=>.inl h,fun _ _=>rfl⟩ hMg (fun _ _=>rfl) hall hob
  |mp ag es=>exact ObR.keep (K:=K) ⟨fun _ h=>.inl h,fun _ _=>rfl⟩ hMg (fun _ _=>rfl) hall hob
  |mpb ag es bs cl=>exact ObR.keep (K:=K) ⟨fun _ h=>.inl h,fun _ _=>rfl⟩ hMg (fun _ _=>rfl) hall hob
  |it o cl seen=>exact ObR.keep (K:=K) ⟨fun _ h=>.inl h,fun _ _=>rfl⟩ hMg (fun _ _=>rfl) hall hob
  |gone=>exact hob
def wg(tmps:Array Value):ResultVar->Sem Value
 |.tmp t=>pure (tmps.getD t undef)
 |.cell a t=>do loadVar t (<-asAddr (tmps.getD a undef))
theorem rL{E:dz}{a:Act}(hS:St K G H w)(hE:jJ K w.heap G a E){r:ResultVar}(hok:(qB P E H r).ok) :
  ∃c,(wg a.tmps r).run P w=.ok c w/\VR K w.heap G c (qB P E H r).v:=by
 cases r with
 |tmp t=>exact⟨_,rfl,hE t⟩
 |cell x T =>
  simp only[qB]at hok|-;split at hok
  rotate_left
  .exact hok.elim
  rename_i ti ht
  obtain⟨c,hr,hv⟩:=oc (P:=P) ht hS (hE x) hok;refine⟨c,?_,hv⟩;simp only[wg];generalize a.tmps.getD x undef=d at hr|-
  cases d <;> simp only[Instr.loadAt,Instr.sureAddr,asAddr]at hr|-
  case pointer p =>
   cases p with
   |none=>simp at hr
   |some p=>simpa using hr
  all_goals simp at hr
theorem rK{E:dz}{a:Act}(hS:St K G H w)(hE:jJ K w.heap G a E):∀{rs:List ResultVar},(iX P E H rs).2->∃cs,(rs.mapM (wg a.tmps)).run P w=.ok cs w/\VRs K w.heap G cs (iX P E H rs).1
 |[],_=>⟨[],by simp,by simp[iX,VRs]⟩
 |r::rs,hok=>by
  simp only[iX]at hok|-;obtain⟨c,h1,h2⟩:=rL (P:=P) hS hE hok.1;obtain⟨cs,h3,h4⟩:=rK hS hE hok.2;refine⟨c::cs,?_,by simp only[VRs];exact⟨c,cs,rfl,h2,h4⟩⟩;rw[mapM_cons];simp only[Sem.run_bind,h1,h3,Result.andThen_ok,Sem.run_pure]
theorem rJ{E:dz}{a:Act}(hS:St K G H w)(hE:jJ K w.heap G a E){fn:Func}(hok:(gI P E H fn.results.toList).ok):∃c,(results fn a.tmps).run P w=.ok c w/\VR K w.heap G c (gI P E H fn.results.toList).v:=by
 have key:∀{cs:List Value},(fn.results.toList.mapM (wg a.tmps)).run P w=.ok cs w ->
   (results fn a.tmps).run P w=.ok (if h:cs.length=1 then cs[0]else .tuple cs.toArray) w:=by
  intro cs h
  show(do let vs <-fn.results.mapM (wg a.tmps);pure (if h:vs.size=1 then vs[0]else .tuple vs):Sem Value).run P w=_
  rw[Array.mapM_eq_mapM_toList];simp only[Sem.run_bind,Sem.run_map,h,Result.andThen_ok,Sem.run_pure];simp
 unfold gI at hok|-;split at hok
 .rename_i r hr
  obtain⟨c,h1,h2⟩:=rL (P:=P) hS hE hok;refine⟨c,?_,h2⟩;rw[key (cs:=[c]) (by rw[hr,mapM_cons];simp only[mapM_nil,Sem.run_bind,h1,Result.andThen_ok,Sem.run_pure])];rfl
 .rename_i rs hne
  obtain⟨cs,h1,h2⟩:=rK (P:=P) hS hE hok;have hl:=h2.length
  have hl1:∀rs,(iX P E H rs).1.length=rs.length:=by
   intro rs
   induction rs with
   |nil=>rfl
   |cons r rs ih=>simp[iX,ih]
  have hn1:¬ cs.length=1:=by
   rw[hl,hl1];intro h
   match hrs:fn.results.toList,h with
   |[r],_=>exact hne r hrs
  refine⟨.tuple cs.toArray,?_,by simp only[VR];exact⟨cs,rfl,h2⟩⟩;rw[key h1,dif_neg hn1]
end
def yB:Nat->List Va->dz
 |_,[]=>[]
 |k,v::vs=>(k,v)::yB (k+1) vs
theorem ND{K:Nat->Prop}{h:Array Obj}{G:List Gh}:∀{cs:List Value} {vs:List Va} (k m:Nat),VRs K h G cs vs->VR K h G (if k<=m then cs.getD (m-k) undef else undef) (ei (yB k vs) m)
 |cs,[],k,m,_=>by simp[yB,ei,VR]
 |cs,v::vs,k,m,H=>by
  simp only[VRs]at H;obtain⟨c,cs',rfl,h2,h3⟩:=H;simp only[yB,ei]
  by_cases e:k=m
  .subst e
   simpa using h2
  .rw[if_neg e]
   have ih:=ND (k+1) m h3
   by_cases hk:k<=m
   .rw[if_pos (by omega)]at ih
    rw[if_pos hk,show m-k=(m-(k+1))+1 by omega]
    simpa using ih
   .rw[if_neg (by omega)]at ih
    rw[if_neg hk];exact ih
theorem Ext.out{kp:Nat->Bool}{K0 K:Nat->Prop}{G0 G:List Gh}{w0 w:World}{H:List Ob}(h:Ext kp K0 G0 w0 K G w){m:Nat}(hm:G0.length<=m):Ext kp K0 G0 w0 (B7 K G H m) (G.take m) w :=
 { h.cut hm with
  k:=fun b hb=>.inl (h.k b hb)
  knew:=fun b hb=>by
   rcases hb with hb|⟨o,g,ho,hg,hb,_⟩
   .exact h.knew b hb
   .exact .inr (h.gnew o g b (by omega) hg hb) }
theorem Does.of_wp {P:Program} {f:FuncId} {fn:Func} {code:Code} {args:List Va} {X:List Ob} {Post:Va->List Ob->Prop} (m n:Nat) (rs:List ResultVar) (hf:P.funcs[f]?=some fn) (hb:fn.body=some code) (hnm:(fn.name == "runtime.NumGoroutine")=false) (hn:fn.ntmps=n) (hrs:fn.results.toList=rs) (hl:args.length<=n)
  (h:∀B,Wp P (kinds X) n B code (qA P rs m (kinds X) Post) (yB 0 args) X):Does P f args X Post:=by
 subst hn;subst hrs;refine⟨⟨fn,hf,hnm,by rw[hb];rfl⟩,fun K G w vals hS hV=>?_⟩;have hvl:=hV.length;refine calls_of_wp hf hb ?_
 have hB:G.length=(kinds X).length:=by rw[OL,hS.len]
 have hR:Rel (cx P (kinds X) fn.ntmps ⟨K,G,w⟩) (yB 0 args) X { tmps:=vals.toArray++Array.replicate (fn.ntmps-vals.toArray.size) undef,defers:=[] } w:=by
  refine⟨K,G,Ext.refl _ _ _ _,hS,fun j=>?_,rfl,by simp;omega,Du X⟩;have:=ND (K:=K) (h:=w.heap) (G:=G) 0 j hV;simp only[Nat.zero_le,if_true,Nat.sub_zero]at this
  have e:(vals.toArray++Array.replicate (fn.ntmps-vals.toArray.size) undef).getD j undef=vals.getD j undef:=by
   rw[Array.getD_eq_getD_getElem?,getD_eq_getElem?_getD,Array.getElem?_append];split
   .simp
   .rename_i hj
    rw[getElem?_eq_none (by simpa using hj),Array.getElem?_replicate]
    split <;> rfl
  rw[e];exact this
 refine wp_mono (h ⟨K,G,w⟩ hB _ _ hR) ?_;intro e a w' ⟨E,H,hq,hR'⟩
 have eu:ib P fn.results.toList m (kinds X) Post E H->a.defers=[]/\∃v,(results fn a.tmps).run P w'=.ok v w'/\∃c r X' K' G',Ending.returned v=.returned c/\Post r X'/\Ext (dG (kinds X)) K G w K' G' w'/\St K' G' X' w'/\VR K' w'.heap G' c r/\fE (dG (kinds X)) X':=by
  intro hq;obtain⟨h1,h2,h3,h4,h5,r,X',h6,h7,h8,h9,h10,h11⟩:=hq;obtain⟨K1,G1,hX,hS1,hE,hd,_,hk⟩:=hR';obtain⟨c,hc,hv⟩:=rJ (P:=P) hS1 hE h1
  have hmk:G.length<=m:=by rw[hB];exact h2
  have hMg:Mg (fun o=>decide (o<m)) G1 (G1.take m):=fun o g ho hg=>by rw[getElem?_take,if_pos (by simpa using ho)];exact hg
  have hv2:VR (B7 K1 G1 H m) w'.heap (G1.take m) c (gJ m H (gI P E H fn.results.toList).v):=VR.keep ⟨fun _ h=>h,fun _ _=>rfl⟩ hMg _ _ h4 (lW hS1 m hv);have hS2:=hS1.out h5;have hS3:=hS2.cut h7 (by rw[h8];exact h10);rw[h8,take_take,Nat.min_self]at hS3;refine⟨hd,c,hc,c,r,X',B7 K1 G1 H m,G1.take m,rfl,h11,hX.out hmk,hS3,i6 h6 hv2,fun o ho=>?_⟩;obtain⟨vs,hvs,hkt⟩:=hk o ho;have hom:o<m:=Nat.lt_of_lt_of_le (B3 ho) h2;obtain⟨x,hx,hle⟩:=FQ h7 o _ (getElem?_eq_getElem (by rw[h8];exact hom));obtain⟨x0,hx0,rfl⟩:=Lf m H hx;rw[getElem?_take,if_pos hom,hvs]at hx0;cases hx0;exact⟨_,getElem?_eq_getElem (by rw[h8];exact hom),Ng hle (by cases vs <;> first|rfl|cases hkt)⟩
 cases e with
 |normal=>exact eu hq
 |ret=>exact eu hq
 |exit id=>exact hq.elim
 |goto l=>exact hq.elim
 |panic ch=>exact hq.elim
 |outgrown=>exact hq.elim
mutual
def iy:Va->Option Va
 |.p x=>some (.p x)
 |.nils=>some (.p (.l []))
 |.full rows=>some (.p (.l rows))
 |.rp row=>some (.rp row)
 |.nil=>some .nil
 |.raw v=>some (.raw v)
 |.er v=>some (.er v)
 |.top=>some .top
 |.fn f vs=>match vo vs with
  |some us=>some (.fn f us)
  |none=>none
 |.agg vs=>match vo vs with
  |some us=>some (.agg us)
  |none=>none
 |.tup vs=>match vo vs with
  |some us=>some (.tup us)
  |none=>none
 |_=>none
def vo:List Va->Option (List Va)
 |[]=>some []
 |v::vs=>match iy v,vo vs with
  |some u,some us=>some (u::us)
  |_,_=>none
end
mutual
def ix(H:List Ob):Va->Option Va
 |.p x=>some (.p x)
 |.nils=>some (.p (.l []))
 |.full rows=>some (.p (.l rows))
 |.rp row=>some (.rp row)
 |.nil=>some .nil
 |.raw v=>some (.raw v)
 |.er v=>some (.er v)
 |.top=>some .top
 |.buf o=>match dT H o with
  |.buf _ _ rows=>some (.p (.l rows))
  |_=>none
 |.ptr o off=>match dT H o with
  |.cells _ vs=>match fQ vs with
   |some ds=>some (.rp (ds.drop off))
   |none=>none
  |_=>none
 |.fn f vs=>match jO H vs with
  |some us=>some (.fn f us)
  |none=>none
 |.agg vs=>match jO H vs with
  |some us=>some (.agg us)
  |none=>none
 |.tup vs=>match jO H vs with
  |some us=>some (.tup us)
  |none=>none
 |_=>none
def jO(H:List Ob):List Va->Option (List Va)
 |[]=>some []
 |v::vs=>match ix H v,jO H vs with
  |some u,some us=>some (u::us)
  |_,_=>none
end
mutual
def Va.flat:Va->Bool
 |.p (.b _)|.p (.i _ _)|.p (.s _)|.nil|.raw _|.er _|.top|.nils=>true
 |.agg vs|.tup vs=>cB vs
 |_=>false
def cB:List Va->Bool
 |[]=>true
 |v::vs=>v.flat&&cB vs
end
section
variable {K:Nat->Prop} {h:Array Obj} {G:List Gh}
mutual
theorem wy:∀{c:Value} {v u:Va},iy v=some u->VR K h G c v->VR K h [] c u
 |c,.p x,u,hp,hv=>by simp only[iy]at hp;cases hp;simpa only[VR]using hv
 |c,.nils,u,hp,hv=>by simp only[iy]at hp;cases hp;simp only[VR,DR]at *;exact .inl ⟨⟨none,hv⟩,trivial⟩
 |c,.full rows,u,hp,hv=>by simp only[iy]at hp;cases hp;simp only[VR]at *;exact hv.1
 |c,.rp row,u,hp,hv=>by simp only[iy]at hp;cases hp;simpa only[VR]using hv
 |c,.nil,u,hp,hv=>by simp only[iy]at hp;cases hp;simpa only[VR]using hv
 |c,.raw v,u,hp,hv=>by simp only[iy]at hp;cases hp;simpa only[VR]using hv
 |c,.er v,u,hp,hv=>by simp only[iy]at hp;cases hp;simpa only[VR]using hv
 |c,.top,u,hp,hv=>by simp only[iy]at hp;cases hp;simp[VR]
 |c,.fn f vs,u,hp,hv=>by
  simp only[iy]at hp;split at hp
  .rename_i us hu;cases hp;simp only[VR]at *;obtain⟨cs,h1,h2⟩:=hv;exact⟨cs,h1,HY hu h2⟩
  .cases hp
 |c,.agg vs,u,hp,hv=>by
  simp only[iy]at hp;split at hp
  .rename_i us hu;cases hp;simp only[VR]at *;obtain⟨cs,h1,h2⟩:=hv;exact⟨cs,h1,HY hu h2⟩
  .cases hp
 |c,.tup vs,u,hp,hv=>by
  simp only[iy]at hp;split at hp
  .rename_i us hu;cases hp;simp only[VR]at *;obtain⟨cs,h1,h2⟩:=hv;exact⟨cs,h1,HY hu h2⟩
  .cases hp
 |c,.ptr _ _,u,hp,_=>by simp[iy]at hp
 |c,.cs _ _,u,hp,_=>by simp[iy]at hp
 |c,.el _ _ _ _,u,hp,_=>by simp[iy]at hp
 |c,.buf _,u,hp,_=>by simp[iy]at hp
 |c,.mp _,u,hp,_=>by simp[iy]at hp
 |c,.np _,u,hp,_=>by simp[iy]at hp
 |c,.sd _,u,hp,_=>by simp[iy]at hp
 |c,.vw _ _ _ _,u,hp,_=>by simp[iy]at hp
 |c,.bufc _ _,u,hp,_=>by simp[iy]at hp
 |c,.cnd _ _,u,hp,_=>by simp[iy]at hp
theorem HY:∀{cs:List Value} {vs us:List Va},vo vs=some us->VRs K h G cs vs->VRs K h [] cs us
 |cs,[],us,hp,hv=>by simp only[vo]at hp;cases hp;simpa only[VRs]using hv
 |cs,v::vs,us,hp,hv=>by
  simp only[vo]at hp;split at hp
  .rename_i u us' h1 h2
   cases hp;simp only[VRs]at *;obtain⟨c,cs',e1,e2,e3⟩:=hv;exact⟨c,cs',e1,wy h1 e2,HY h2 e3⟩
  .cases hp
end
mutual
theorem Hf{K':Nat->Prop}{h':Array Obj}{G':List Gh}:∀{c:Value} {v:Va},v.flat=true->VR K h G c v->VR K' h' G' c v
 |c,.p (.b x),_,hv=>by simpa only[VR,DR]using hv
 |c,.p (.i k n),_,hv=>by simpa only[VR,DR]using hv
 |c,.p (.s x),_,hv=>by simpa only[VR,DR]using hv
 |c,.nil,_,hv=>by simpa only[VR]using hv
 |c,.nils,_,hv=>by simpa only[VR]using hv
 |c,.raw v,_,hv=>by simpa only[VR]using hv
 |c,.er v,_,hv=>by simpa only[VR]using hv
 |c,.top,_,_=>by simp[VR]
 |c,.agg vs,hf,hv=>by simp only[VR,Va.flat]at *;obtain⟨cs,h1,h2⟩:=hv;exact⟨cs,h1,M1 hf h2⟩
 |c,.tup vs,hf,hv=>by simp only[VR,Va.flat]at *;obtain⟨cs,h1,h2⟩:=hv;exact⟨cs,h1,M1 hf h2⟩
theorem M1{K':Nat->Prop}{h':Array Obj}{G':List Gh}:∀{cs:List Value} {vs:List Va},cB vs=true->VRs K h G cs vs->VRs K' h' G' cs vs
 |cs,[],_,hv=>by simpa only[VRs]using hv
 |cs,v::vs,hf,hv=>by
  simp only[VRs,cB,Bool.and_eq_true]at *;obtain⟨c,cs',e1,e2,e3⟩:=hv;exact⟨c,cs',e1,Hf hf.1 e2,M1 hf.2 e3⟩
end
end
def y6(K:Nat->Prop)(G:List Gh)(b:Nat):Prop:=K b∨∃(o:Nat) (g:Gh),G[o]?=some g/\g.blk=some b
section
variable {K:Nat->Prop} {w:World} {G:List Gh} {H:List Ob}
mutual
theorem wX(hS:St K G H w):∀{c:Value} {v u:Va},ix H v=some u->VR K w.heap G c v->VR (y6 K G) w.heap [] c u
 |c,.p x,u,hp,hv=>by simp only[ix]at hp;cases hp;exact VR.keep (K:=K) (f:=fun _=>false) ⟨fun _ h=>.inl h,fun _ _=>rfl⟩ (fun _ _ h=>Bool.noConfusion h) c (.p x) rfl hv
 |c,.nils,u,hp,hv=>by simp only[ix]at hp;cases hp;simp only[VR,DR]at *;exact .inl ⟨⟨none,hv⟩,trivial⟩
 |c,.full rows,u,hp,hv=>by simp only[ix]at hp;cases hp;simp only[VR]at *;exact DR.mono ⟨fun _ h=>.inl h,fun _ _=>rfl⟩ _ _ hv.1
 |c,.rp row,u,hp,hv=>by simp only[ix]at hp;cases hp;exact VR.keep (K:=K) (f:=fun _=>false) ⟨fun _ h=>.inl h,fun _ _=>rfl⟩ (fun _ _ h=>Bool.noConfusion h) c (.rp row) rfl hv
 |c,.nil,u,hp,hv=>by simp only[ix]at hp;cases hp;simpa only[VR]using hv
 |c,.raw v,u,hp,hv=>by simp only[ix]at hp;cases hp;simpa only[VR]using hv
 |c,.er v,u,hp,hv=>by simp only[ix]at hp;cases hp;simpa only[VR]using hv
 |c,.top,u,hp,hv=>by simp only[ix]at hp;cases hp;simp[VR]
 |c,.buf o,u,hp,hv=>by
  simp only[ix]at hp;split at hp
  .rename_i T sz rows hob
   cases hp;simp only[VR]at hv;obtain⟨g,hg,rfl,_⟩:=hv;simp only[VR];exact mD hS (zJ hob (by simp)) hg (fun _ h=>.inl h) (fun b hb=>.inr ⟨o,g,hg,hb⟩)
  .cases hp
 |c,.ptr o off,u,hp,hv=>by
  simp only[ix]at hp;split at hp
  .rename_i vs hob
   split at hp
   .rename_i ds hds
    cases hp;simp only[VR]at hv;obtain⟨g,b,hg,hgb,rfl⟩:=hv;obtain⟨b',cs,hb',hb,hvs⟩:=hS.ob o g _ hg (zJ hob (by simp))
    obtain rfl:b'=b:=by rw[hgb]at hb';exact(Option.some.inj hb').symm
    have hd:=yG hvs hds;have hd':DRs (y6 K G) w.heap cs ds:=DRs.mono ⟨fun _ h=>.inl h,fun _ _=>rfl⟩ _ _ hd;have:=lN (K:=y6 K G) (G:=[]) (off:=0) (.inr ⟨o,g,hg,hgb⟩) hb (fun j v hj=>by rw[Nat.zero_add];simpa using hj) hd' off
    simpa using this
   .cases hp
  .cases hp
 |c,.cs _ _,u,hp,_=>by simp[ix]at hp
 |c,.fn f vs,u,hp,hv=>by
  simp only[ix]at hp;split at hp
  .rename_i us hu;cases hp;simp only[VR]at *;obtain⟨cs,h1,h2⟩:=hv;exact⟨cs,h1,At hS hu h2⟩
  .cases hp
 |c,.agg vs,u,hp,hv=>by
  simp only[ix]at hp;split at hp
  .rename_i us hu;cases hp;simp only[VR]at *;obtain⟨cs,h1,h2⟩:=hv;exact⟨cs,h1,At hS hu h2⟩
  .cases hp
 |c,.tup vs,u,hp,hv=>by
  simp only[ix]at hp;split at hp
  .rename_i us hu;cases hp;simp only[VR]at *;obtain⟨cs,h1,h2⟩:=hv;exact⟨cs,h1,At hS hu h2⟩
  .cases hp
 |c,.el _ _ _ _,u,hp,_=>by simp[ix]at hp
 |c,.mp _,u,hp,_=>by simp[ix]at hp
 |c,.np _,u,hp,_=>by simp[ix]at hp
 |c,.sd _,u,hp,_=>by simp[ix]at hp
 |c,.vw _ _ _ _,u,hp,_=>by simp[ix]at hp
 |c,.bufc _ _,u,hp,_=>by simp[ix]at hp
 |c,.cnd _ _,u,hp,_=>by simp[ix]at hp
theorem At(hS:St K G H w):∀{cs:List Value} {vs us:List Va},jO H vs=some us->VRs K w.heap G cs vs->VRs (y6 K G) w.heap [] cs us
 |cs,[],us,hp,hv=>by simp only[jO]at hp;cases hp;simpa only[VRs]using hv
 |cs,v::vs,us,hp,hv=>by
  simp only[jO]at hp;split at hp
  .rename_i u us' h1 h2
   cases hp;simp only[VRs]at *;obtain⟨c,cs',e1,e2,e3⟩:=hv;exact⟨c,cs',e1,wX hS h1 e2,At hS h2 e3⟩
  .cases hp
end
theorem St.nil(hb:∀b,K b->b<w.heap.size)(ht:TabOk K w.heap):St K [] [] w :=
 ⟨rfl,hb,fun o g b h=>by simp at h,fun o o' g g' b h=>by simp at h,fun o g x h=>by simp at h,ht⟩
theorem Ln(hS:St K G H w):∀b,y6 K G b->b<w.heap.size:=fun b hb=>by
 rcases hb with h|⟨o,g,h1,h2⟩
 .exact hS.kb b h
 .exact(hS.gb o g b h1 h2).1
theorem St.after{K0 K':Nat->Prop}{G':List Gh}{w':World}{kp:Nat->Bool}(hS:St K G H w)(hX:Ext kp K0 [] w K' G' w'):St K G H w':=by
 have fr:∀b,b<w.heap.size->w'.heap[b]?=w.heap[b]?:=fun b hb=>hX.frame b hb (fun o g0 h=>by simp at h)
 exact⟨hS.len,fun b hb=>Nat.lt_of_lt_of_le (hS.kb b hb) hX.size,fun o g b h1 h2=>⟨Nat.lt_of_lt_of_le (hS.gb o g b h1 h2).1 hX.size,(hS.gb o g b h1 h2).2⟩,hS.inj,
  fun o g x h1 h2=>ObR.keep ⟨fun _ h=>h,fun b hb=>fr b (hS.kb b hb)⟩ (Mg.refl (fun _=>true) G) (fun b hb=>fr b (hS.gb o g b h1 hb).1) (Ob.all_true _) (hS.ob o g x h1 h2),hS.tb.mono ⟨fun _ h=>h,fun b hb=>fr b (hS.kb b hb)⟩⟩
end
section
variable {P:Program} {kl:List Bool} {n:Nat} {B:Bs} {K:dz->List Ob->Prop} {E:dz} {H:List Ob} {ops:Array Oper}
theorem DG{o:Oper}{c:Call}{fop:Operand}{f:FuncId}{cs:List Value}{a:Act}{w:World}(ho:o.op=.call c)(hc:c.callee=.value fop)(hf:a.eval fop=.func (.func f) #[] cs.toArray)(hcal:Ca P f) :
  (execOp a.eval o).run P w=.ok (.enter f ((c.args.toList.map a.eval)++cs).toArray) w:=by
 obtain⟨callee,args,argTypes⟩:=c;obtain⟨dst,op,ty,pos,af,gd⟩:=o;cases ho;simp only at hc;subst hc;obtain⟨fn,h1,h2,h3⟩:=hcal
 have e:args.map a.eval=(args.toList.map a.eval).toArray:=by cases args;simp
 simp only[execOp,resolve,hf,Deferred.ofValue,Sem.run_bind,Sem.run_pure,Result.andThen_ok,invoke,callFunc,run_program,h1,h2,h3,Bool.false_eq_true,if_false];simp
theorem Rg.call{o:Oper}{l:List Oper}{c:Call}{fop:Operand}{f:FuncId}{caps args:List Va}{Post:Va->List Ob->Prop}(hs:Does P f args [] Post)(ho:o.op=.call c)(hg:o.guard=none)(hc:c.callee=.value fop)(hd:gv n o.dst)
  (hok:opOk true E fop/\allOk true E c.args.toList) (hf:opnd E fop=.fn f caps) (hp:vo (opnds E c.args.toList++caps)=some args)
  (cont:∀r X',Post r X'->r.ok->X'=[]/\Rg P kl n B ops l (dV E o.dst r) H K):Rg P kl n B ops (o::l) E H K:=by
 intro hB a w Q hR hK
 refine wpList_plain hg fun K' hK'=>?_
 obtain⟨Kk,G,hX,hS,hE,hdf,hn,hkp⟩:=hR;have hvf:=zz hE rfl fop hok.1;rw[hf]at hvf;simp only[VR]at hvf;obtain⟨cs,hcs,hcv⟩:=hvf;have hargs:=vt hE rfl c.args.toList hok.2;have hall:=HY hp (hargs.append hcv);unfold Oper.wp;rw[DG ho hc hcs hs.1];simp only[Oper.upon];refine(hs.2 Kk [] w _ (St.nil hS.kb hS.tb) hall).mono ?_;rintro e w' ⟨c',r,X',K1,G1,rfl,hpost,hX1,hS1,hv,_⟩;obtain⟨rfl,hrg⟩:=cont r X' hpost hv.ok
 have hG1:G1=[]:=by have:=hS1.len;simpa using this
 subst hG1
 -- K1 and the caller's own objects
 have hkk:∀b,K1 b->Kk b∨w.heap.size<=b:=hX1.knew
 have fr:∀b,b<w.heap.size->w'.heap[b]?=w.heap[b]?:=fun b hb=>hX1.frame b hb (fun o g0 h=>by simp at h)
 have hS':=hS.after hX1
 have hS2:St K1 G H w':=⟨hS'.len,hS1.kb,fun o g b h1 h2=>⟨(hS'.gb o g b h1 h2).1,fun hk=>by
   rcases hkk b hk with h|h
   .exact(hS'.gb o g b h1 h2).2 h
   .have:=(hS.gb o g b h1 h2).1;omega⟩,hS'.inj,
  fun o g x h1 h2=>ObR.keep ⟨hX1.k,fun _ _=>rfl⟩ (Mg.refl (fun _=>true) G) (fun _ _=>rfl) (Ob.all_true _) (hS'.ob o g x h1 h2),hS1.tb⟩
 have hX2:Ext (dG kl) B.K0 B.G0 B.w0 K1 G w':=by
  refine hX.trans { Ext.refl (dG kl) Kk G w with
   os:=hX1.os,tape:=hX1.tape,output:=hX1.output,size:=hX1.size,k:=hX1.k,knew:=hX1.knew,frame:=fun b hb _=>fr b hb }
 have hRV:RelV (cx P kl n B) E H c' r a w':=⟨K1,G,hX2,hS2,fun m=>VR.keep (f:=fun _=>true) ⟨hX1.k,fun b hb=>fr b (hS.kb b hb)⟩ (Mg.refl _ G) _ _ (Va.all_true _) (hE m),hdf,hn,hkp,VR.grow ⟨fun _ h=>h,fun _ _=>rfl⟩ (fun o g h=>by simp at h) _ _ hv⟩;exact hK' _ _ (hrg hB _ _ _ (hRV.put o.dst (zZ hd)) hK)
theorem dv{o:Oper}{l:List Oper}{c:Call}{fop:Operand}{f:FuncId}{caps args:List Va}{Post:Va->List Ob->Prop}(hs:Does P f args [] Post)(ho:o.op=.call c)(hg:o.guard=none)(hc:c.callee=.value fop)(hd:gv n o.dst)
  (hok:opOk true E fop/\allOk true E c.args.toList) (hf:opnd E fop=.fn f caps) (hp:jO H (opnds E c.args.toList++caps)=some args)
  (cont:∀r X',Post r X'->r.ok->r.flat=true/\Rg P kl n B ops l (dV E o.dst r) H K):Rg P kl n B ops (o::l) E H K:=by
 intro hB a w Q hR hK
 refine wpList_plain hg fun K' hK'=>?_
 obtain⟨Kk,G,hX,hS,hE,hdf,hn,hkp⟩:=hR;have hvf:=zz hE rfl fop hok.1;rw[hf]at hvf;simp only[VR]at hvf;obtain⟨cs,hcs,hcv⟩:=hvf;have hargs:=vt hE rfl c.args.toList hok.2;have hall:=At hS hp (hargs.append hcv);unfold Oper.wp;rw[DG ho hc hcs hs.1];simp only[Oper.upon];refine(hs.2 (y6 Kk G) [] w _ (St.nil (Ln hS) (hS.tb.mono ⟨fun _ h=>.inl h,fun _ _=>rfl⟩)) hall).mono ?_;rintro e w' ⟨c',r,X',K1,G1,rfl,hpost,hX1,hS1,hv,_⟩;obtain⟨hflat,hrg⟩:=cont r X' hpost hv.ok
 have fr:∀b,b<w.heap.size->w'.heap[b]?=w.heap[b]?:=fun b hb=>hX1.frame b hb (fun o g0 h=>by simp at h)
 have hX2:Ext (dG kl) B.K0 B.G0 B.w0 Kk G w':=by
  refine hX.trans { Ext.refl (dG kl) Kk G w with
   os:=hX1.os,tape:=hX1.tape,output:=hX1.output,size:=hX1.size,frame:=fun b hb _=>fr b hb }
 have hRV:RelV (cx P kl n B) E H c' r a w':=⟨Kk,G,hX2,hS.after hX1,fun m=>VR.keep (f:=fun _=>true) ⟨fun _ h=>h,fun b hb=>fr b (hS.kb b hb)⟩ (Mg.refl _ G) _ _ (Va.all_true _) (hE m),hdf,hn,hkp,Hf hflat hv⟩;exact hK' _ _ (hrg hB _ _ _ (hRV.put o.dst (zZ hd)) hK)
theorem Rg.callG{o:Oper}{l:List Oper}{c:Call}{fop:Operand}{f:FuncId}{caps args:List Va}{j:Nat}{want g:Bool}(r:Va)(hs:g=true->Does P f args [] fun r' X=>r'=r/\X=[])(ho:o.op=.call c)(hg:o.guard=some (j,want))(hb:jC ops.toList E j want=some g)(hc:c.callee=.value fop)(hd:gv n o.dst)
  (hok:opOk g E fop/\allOk g E c.args.toList) (hf:opnd E fop=.fn f caps) (hp:jO H (opnds E c.args.toList++caps)=some args) (hflat:r.flat=true)
  (cont:(g=true->r.ok)->Rg P kl n B ops l (dV E o.dst (.cnd g r)) H K):Rg P kl n B ops (o::l) E H K:=by
 intro hB a w Q hR hK;have hw:=sZ hR hg hb
 refine wpList_step fun K' hK'=>?_
 have hR':=hR;obtain⟨Kk,G,hX,hS,hE,hdf,hn,hkp⟩:=hR'
 cases g with
 |true =>
  rw[if_pos hw];have hs:=hs rfl;have hvf:=zz hE rfl fop hok.1;rw[hf]at hvf;simp only[VR]at hvf;obtain⟨cs,hcs,hcv⟩:=hvf;have hargs:=vt hE rfl c.args.toList hok.2;have hall:=At hS hp (hargs.append hcv);unfold Oper.wp;rw[DG ho hc hcs hs.1];simp only[Oper.upon];refine(hs.2 (y6 Kk G) [] w _ (St.nil (Ln hS) (hS.tb.mono ⟨fun _ h=>.inl h,fun _ _=>rfl⟩)) hall).mono ?_;rintro e w' ⟨c',r',X',K1,G1,rfl,⟨rfl,rfl⟩,hX1,hS1,hv,_⟩
  have hrg:=cont fun _=>hv.ok
  have fr:∀b,b<w.heap.size->w'.heap[b]?=w.heap[b]?:=fun b hb=>hX1.frame b hb (fun o g0 h=>by simp at h)
  have hX2:Ext (dG kl) B.K0 B.G0 B.w0 Kk G w':=by
   refine hX.trans { Ext.refl (dG kl) Kk G w with
    os:=hX1.os,tape:=hX1.tape,output:=hX1.output,size:=hX1.size,frame:=fun b hb _=>fr b hb }
  have hRV:RelV (cx P kl n B) E H c' (.cnd true r') a w':=⟨Kk,G,hX2,hS.after hX1,fun m=>VR.keep (f:=fun _=>true) ⟨fun _ h=>h,fun b hb=>fr b (hS.kb b hb)⟩ (Mg.refl _ G) _ _ (Va.all_true _) (hE m),hdf,hn,hkp,by simp only[VR];exact⟨fun _=>Hf hflat hv,fun e=>Bool.noConfusion e⟩⟩;exact hK' _ _ (hrg hB _ _ _ (hRV.put o.dst (zZ hd)) hK)
 |false =>
  rw[if_neg (by rw[hw];simp)];have hRV:RelV (cx P kl n B) E H undef (.cnd false r) a w:=⟨Kk,G,hX,hS,hE,hdf,hn,hkp,by simp[VR]⟩;exact hK' _ _ (cont (fun e=>Bool.noConfusion e) hB _ _ _ (hRV.put o.dst (zZ hd)) hK)
end
def Is{α:Type}(x y:α):Prop:=x=y
theorem Is.mk{α:Type}{x:α}:Is x x:=rfl
def As(E:dz)(o:Oper):Option (FuncId×List Va):=match o.op,o.guard with
 |.call c,none=>match c.callee with
  |.value fop=>match opnd E fop with
   |.fn f caps=>some (f,opnds E c.args.toList++caps)
   |_=>none
  |_=>none
 |_,_=>none
def uq(E:dz)(o:Oper):Option (FuncId×List Va×Nat×Bool):=match o.op,o.guard with
 |.call c,some (j,want)=>match c.callee with
  |.value fop=>match opnd E fop with
   |.fn f caps=>some (f,opnds E c.args.toList++caps,j,want)
   |_=>none
  |_=>none
 |_,_=>none
def iP(n:Nat)(g:Bool)(E:dz)(o:Oper):Prop:=match o.op with
 |.call c=>match c.callee with
  |.value fop=>gv n o.dst/\opOk g E fop/\allOk g E c.args.toList
  |_=>False
 |_=>False
theorem OJ{E:dz}{o:Oper}{f:FuncId}{av:List Va}(h:As E o=some (f,av)):∃c fop caps,o.op=.call c/\o.guard=none/\c.callee=.value fop/\opnd E fop=.fn f caps/\av=opnds E c.args.toList++caps:=by
 unfold As at h;split at h
 rotate_left
 .cases h
 rename_i c h1 h2
 split at h
 rotate_left
 .cases h
 rename_i fop h3
 split at h
 rotate_left
 .cases h
 rename_i f' caps h4
 cases h;exact⟨c,fop,caps,h1,h2,h3,h4,rfl⟩
theorem u1{n:Nat}{E:dz}{o:Oper}{g:Bool}(h:iP n g E o){c:Call}{fop:Operand}(h1:o.op=.call c)(h2:c.callee=.value fop):gv n o.dst/\opOk g E fop/\allOk g E c.args.toList:=by
 simpa only[iP,h1,h2]using h
section
variable {P:Program} {kl:List Bool} {n:Nat} {B:Bs} {K:dz->List Ob->Prop} {E:dz} {H:List Ob} {ops:Array Oper} {Q:Qt}
theorem cb{id:Nat}{l:List Oper}{y:Code}(h:∀K:dz->List Ob->Prop,(∀E H,Wp P kl n B y Q E H->K E H)->eU P kl n B l.toArray K (eM P kl n l l ⟨E,H,True⟩)):Wp P kl n B (.seq (.region id l.toArray false) y) Q E H :=
 Wp.seq fun _ hK=>Wp.region fun K' hK'=>h K' fun E' H' hy=>hK' E' H' (hK E' H' hy)
theorem Rg.callF{o:Oper}{l:List Oper}{f:FuncId}{av args:List Va}{v:Va}(hs:Does P f args [] fun r X=>r=v/\X=[])(ha:Is (As E o) (some (f,av)))(hp:Is (vo av) (some args))(hok:iP n true E o)
  (cont:v.ok->eU P kl n B ops K (eM P kl n ops.toList l ⟨dV E o.dst v,H,True⟩)):Rg P kl n B ops (o::l) E H K:=by
 obtain⟨c,fop,caps,h1,h2,h3,h4,rfl⟩:=OJ ha;obtain⟨hd,hk⟩:=u1 hok h1 h3
 exact Rg.call hs h1 h2 h3 hd hk h4 hp fun r X' ⟨hr,hX⟩ hv=>⟨hX,hr ▸ Rg.run (cont (hr ▸ hv))⟩
end
theorem A6(a b:Bool):(bif a then true else b)=(a||b):=by cases a <;> rfl
theorem ww(a b:Bool):(bif a then b else false)=(a&&b):=by cases a <;> rfl
theorem Pz{α:Type}(a b:List α):(List.append a b).length=a.length+b.length:=length_append
theorem Kq{b:Builtin}{args:Array Operand}{ts:Array TypeId}:(Call.operands ⟨.builtin b,args,ts⟩).toList=args.toList:=by simp[Call.operands]
theorem Kp{f:Operand}{args:Array Operand}{ts:Array TypeId}:(Call.operands ⟨.value f,args,ts⟩).toList=f::args.toList:=by simp[Call.operands]
theorem Kr(a:Bool):(a == true)=a:=by cases a <;> rfl
theorem Ks(a:Bool):(a == false)=!a:=by cases a <;> rfl
theorem Pw(a:Bool):((!a)=true)=(a=false):=by cases a <;> simp
theorem JP(n:Nat):dT [] n=.gone:=rfl
attribute [go_sem high] rM rN
attribute [go_sem low] A7
attribute [go_sem] eM me BM nq JH JJ JI eU eR opnd opOk ed uK xH cv ni FL ei dV yB gv jC also xZ jl x7 wx oOk allOk partsOk partsV opnds eY nX jU oQ Ky oa gX jN lr EY tT jc iI Kg Fs B1 ya yj lF m9 Px pd pc hU A4 JN tK qV wD Fq CV B5 B2 B9 g9 hO pt Hq yD Df nD kI HJ H5 jg ja HH yE mA Jl oW oV JL Jk vH sP wY jj JS EP qZ gR dT sW wK C0 CS lw setR pP lO je zbh F2 uX fQ ik gh Va.prune cf Va.all cq Ob.prune dG kinds Ob.kept ff j2 go gp Va.isCell Da As uq iP iy vo ix jO Va.flat cB zF fJ zx zq JV yZ tQ gn oh yk iv Ob.all fG qA ib gI iX qB gJ y8 EK gl Va.ok cL Ob.ok uE lj Pz Kq Kp A6 ww Kr Ks Pw Option.map_none Option.map_some Bool.false_eq_true if_false if_true true_and and_true Nat.zero_add Nat.add_zero imp_self forall_const implies_true getElem?_cons_zero getElem?_cons_succ ite_true ite_false cond_true cond_false map_cons map_nil length_cons length_nil take_succ_cons take_zero take_nil drop_succ_cons drop_zero drop_nil cons_append nil_append set_cons_zero set_cons_succ
  getD_cons_zero getD_cons_succ decide_true decide_false Bool.and_true Bool.true_and Bool.not_true Bool.not_false Nat.lt_irrefl not_false_eq_true ne_eq append_nil Bool.and_self
def Agree(xs:List Operand)(E E':dz):Prop:=∀x∈xs,ed E x=ed E' x
section
variable {P:Program} {g:Bool} {E E':dz} {H:List Ob}
theorem Agree.opnd{x:Operand}(h:ed E x=ed E' x):Vc.opnd E x=Vc.opnd E' x:=by unfold Vc.opnd;rw[h]
theorem Agree.opOk{x:Operand}(h:ed E x=ed E' x):Vc.opOk g E x=Vc.opOk g E' x:=by unfold Vc.opOk;rw[h]
theorem Agree.opnds:∀{xs:List Operand},Agree xs E E'->Vc.opnds E xs=Vc.opnds E' xs
 |[],_=>rfl
 |x::xs,h=>by simp only[Vc.opnds];rw[Agree.opnd (h x (by simp)),Agree.opnds fun y hy=>h y (by simp[hy])]
theorem Agree.allOk:∀{xs:List Operand},Agree xs E E'->Vc.allOk g E xs=Vc.allOk g E' xs
 |[],_=>rfl
 |x::xs,h=>by simp only[Vc.allOk];rw[Agree.opOk (h x (by simp)),Agree.allOk fun y hy=>h y (by simp[hy])]
theorem Agree.partsV:∀{xs:List (Nat×Operand)},(∀x∈xs,ed E x.2=ed E' x.2)->Vc.partsV E xs=Vc.partsV E' xs
 |[],_=>rfl
 |x::xs,h=>by simp only[Vc.partsV];rw[Agree.opnd (h x (by simp)),Agree.partsV fun y hy=>h y (by simp[hy])]
theorem Agree.partsOk:∀{xs:List (Nat×Operand)},(∀x∈xs,ed E x.2=ed E' x.2)->Vc.partsOk g E xs=Vc.partsOk g E' xs
 |[],_=>rfl
 |x::xs,h=>by simp only[Vc.partsOk];rw[Agree.opOk (h x (by simp)),Agree.partsOk fun y hy=>h y (by simp[hy])]
theorem Agree.oOk{x:Option Operand}(h:∀y,x=some y->ed E y=ed E' y):Vc.oOk g E x=Vc.oOk g E' x:=by
 cases x with
 |none=>rfl
 |some y=>exact Agree.opOk (h y rfl)
theorem Agree.mapO{x:Option Operand}(h:∀y,x=some y->ed E y=ed E' y):x.map (Vc.opnd E)=x.map (Vc.opnd E'):=by
 cases x with
 |none=>rfl
 |some y=>exact congrArg some (Agree.opnd (h y rfl))
theorem QZ(op:Op)(h:Agree op.operands.toList E E'):eR P g E H op=eR P g E' H op:=by
 unfold Agree at h
 cases op with
 |move x=>have h:=h x (by simp[Op.operands]);simp only[eR,Agree.opnd h,Agree.opOk h]
 |assign x=>have h:=h x (by simp[Op.operands]);simp only[eR,Agree.opnd h,Agree.opOk h]
 |pick c a b =>
  have h1:=h c (by simp[Op.operands]);have h2:=h a (by simp[Op.operands]);have h3:=h b (by simp[Op.operands])
  simp only[eR,Agree.opnd h1,Agree.opOk h1,h2,h3]
 |build t ps =>
  have hp:∀x∈ps.toList,ed E x.2=ed E' x.2:=fun x hx=>h x.2 (by simp only[Op.operands,mem_map];exact⟨x,hx,rfl⟩)
  simp only[eR,Agree.partsV hp,Agree.partsOk hp]
 |load t x=>have h:=h x (by simp[Op.operands]);simp only[eR,Agree.opnd h,Agree.opOk h]
 |nilCheck x=>have h:=h x (by simp[Op.operands]);simp only[eR,Agree.opnd h,Agree.opOk h]
 |binOp op t x y u =>
  have h1:=h x (by simp[Op.operands]);have h2:=h y (by simp[Op.operands])
  simp only[eR,Agree.opnd h1,Agree.opOk h1,Agree.opnd h2,Agree.opOk h2]
 |unOp op t x=>have h:=h x (by simp[Op.operands]);simp only[eR,Agree.opnd h,Agree.opOk h]
 |convert s d x=>have h:=h x (by simp[Op.operands]);simp only[eR,Agree.opnd h,Agree.opOk h]
 |makeFunc fn first caps =>
  have hc:Agree caps.toList E E':=fun x hx=>h x (by simp only[Op.operands,Array.toList_append,mem_append];exact .inr hx)
  simp only[eR,Agree.opnds hc,Agree.allOk hc]
 |slice t x l hi m =>
  have h1:=h x (by simp[Op.operands])
  have h2:∀y,l=some y->ed E y=ed E' y:=fun y e=>h y (by simp[Op.operands,e])
  have h3:∀y,hi=some y->ed E y=ed E' y:=fun y e=>h y (by simp[Op.operands,e])
  have h4:∀y,m=some y->ed E y=ed E' y:=fun y e=>h y (by simp[Op.operands,e])
  simp only[eR,Agree.opnd h1,Agree.opOk h1,Agree.oOk h2,Agree.oOk h3,Agree.oOk h4,Agree.mapO h2,Agree.mapO h3,Agree.mapO h4]
 |fieldAddr t x f=>have h:=h x (by simp[Op.operands]);simp only[eR,Agree.opnd h,Agree.opOk h]
 |field t x f=>have h:=h x (by simp[Op.operands]);simp only[eR,Agree.opnd h,Agree.opOk h]
 |indexAddr t x y =>
  have h1:=h x (by simp[Op.operands]);have h2:=h y (by simp[Op.operands])
  simp only[eR,Agree.opnd h1,Agree.opOk h1,Agree.opnd h2,Agree.opOk h2]
 |index t x y =>
  have h1:=h x (by simp[Op.operands]);have h2:=h y (by simp[Op.operands])
  simp only[eR,Agree.opnd h1,Agree.opOk h1,Agree.opnd h2,Agree.opOk h2]
 |extract x i=>have h:=h x (by simp[Op.operands]);simp only[eR,Agree.opnd h,Agree.opOk h]
 |lookup t x y cok =>
  have h1:=h x (by simp[Op.operands]);have h2:=h y (by simp[Op.operands])
  simp only[eR,Agree.opnd h1,Agree.opOk h1,Agree.opnd h2,Agree.opOk h2]
 |call c =>
  have ha:∀x∈c.args.toList,ed E x=ed E' x:=fun x hx=>h x (by simp only[Op.operands,Call.operands,Array.toList_append,mem_append];exact .inr hx)
  simp only[eR];split
  .rename_i x t _ _ h2 _
   have h:=ha x (by rw[h2];simp);simp only[Agree.opnd h,Agree.opOk h]
  .rename_i x t _ _ h2 _
   have h:=ha x (by rw[h2];simp);simp only[Agree.opnd h,Agree.opOk h]
  .rename_i x y _ h2
   have h1:=ha x (by rw[h2];simp);have h2:=ha y (by rw[h2];simp)
   simp only[Agree.opnd h1,Agree.opOk h1,Agree.opnd h2,Agree.opOk h2]
  .rename_i x y z _ h2
   have h1:=ha x (by rw[h2];simp);have h3:=ha z (by rw[h2];simp);have h2:=ha y (by rw[h2];simp)
   simp only[Agree.opnd h1,Agree.opOk h1,Agree.opnd h2,Agree.opOk h2,Agree.opnd h3,Agree.opOk h3]
  .rename_i x y _ h2
   have h1:=ha x (by rw[h2];simp);have h2:=ha y (by rw[h2];simp)
   simp only[Agree.opnd h1,Agree.opOk h1,Agree.opnd h2,Agree.opOk h2]
  .rfl
 |_=>rfl
def jt(E:dz):Op->Option (Nat->Bool)
 |.call c=>match c.callee,c.args.toList with
  |.builtin .append,[x,_]=>match Vc.opnd E x with
   |.buf o=>some (· != o)
   |_=>none
  |_,_=>none
 |_=>none
def lU:Option (Nat->Bool)->Va->Va
 |none,v=>v
 |some f,v=>v.prune f
def Alike(po:Option (Nat->Bool))(E':dz)(r r':Ev):Prop:=r'.v=r.v/\r'.H=r.H/\r'.ok=r.ok/\(r.ok->∀m,ei r'.E m=lU po (ei E' m))
theorem ru{po:Option (Nat->Bool)}:Alike po E' ga ga:=⟨rfl,rfl,rfl,fun h=>h.elim⟩
theorem qa{v:Va}{Hn:List Ob}{ok:Prop}:Alike none E' ⟨v,E,Hn,ok⟩ ⟨v,E',Hn,ok⟩:=⟨rfl,rfl,rfl,fun _ _=>rfl⟩
theorem Alike.also{po:Option (Nat->Bool)}{r r':Ev}{c d c' d':Prop}(h:Alike po E' r r')(hc:c=c')(hd:d=d'):Alike po E' ⟨r.v,r.E,r.H,c/\d/\r.ok⟩ ⟨r'.v,r'.E,r'.H,c'/\d'/\r'.ok⟩:=by
 subst hc;subst hd
 exact⟨h.1,h.2.1,by simp only[h.2.2.1],fun k=>h.2.2.2 k.2.2⟩
theorem Alike.also3{po:Option (Nat->Bool)}{r r':Ev}{c d f c' d' f':Prop}(h:Alike po E' r r')(hc:c=c')(hd:d=d')(hf:f=f'):Alike po E' ⟨r.v,r.E,r.H,c/\d/\f/\r.ok⟩ ⟨r'.v,r'.E,r'.H,c'/\d'/\f'/\r'.ok⟩:=by
 subst hc;subst hd;subst hf
 exact⟨h.1,h.2.1,by simp only[h.2.2.1],fun k=>h.2.2.2 k.2.2.2⟩
theorem Alike.also1{po:Option (Nat->Bool)}{r r':Ev}{c c':Prop}(h:Alike po E' r r')(hc:c=c'):Alike po E' ⟨r.v,r.E,r.H,c/\r.ok⟩ ⟨r'.v,r'.E,r'.H,c'/\r'.ok⟩:=by
 subst hc;exact⟨h.1,h.2.1,by simp only[h.2.2.1],fun k=>h.2.2.2 k.2⟩
theorem Qd{kp:Nat->Bool}(op:Op)(h:Agree op.operands.toList E E'):Alike (jt E op) E' (eY P kp E H op) (eY P kp E' H op):=by
 unfold Agree at h
 cases op with
 |alloc t =>
  simp only[eY,B1,jt];split
  .split
   .exact qa
   .exact qa
  .exact ru
 |box t x =>
  have h:=h x (by simp[Op.operands]);simp only[eY,pd,jt,Agree.opnd h,Agree.opOk h];exact qa
 |buildSlice t n ps =>
  have hp:∀x∈ps.toList,ed E x.2=ed E' x.2:=fun x hx=>h x.2 (by simp only[Op.operands,mem_map];exact⟨x,hx,rfl⟩)
  simp only[eY,pc,hU,jt,Agree.partsV hp,Agree.partsOk hp]
  cases A4 P t <;> simp only[cond_true,cond_false]
  all_goals repeat' split
  all_goals first|exact qa|exact ru|(cases wD P _ _ <;> exact qa)
 |store t x y =>
  have h1:=h x (by simp[Op.operands]);have h2:=h y (by simp[Op.operands])
  simp only[eY,jt,Agree.opnd h1,Agree.opnd h2];refine Alike.also ?_ (Agree.opOk h1) (Agree.opOk h2);unfold B5
  repeat' split
  all_goals first|exact qa|exact ru
 |convert s d x =>
  have h1:=h x (by simp[Op.operands]);simp only[eY,jt,Agree.opnd h1];refine Alike.also1 ?_ (Agree.opOk h1);unfold B2 B9 g9
  repeat' split
  all_goals first|exact qa|exact ru
 |makeSlice t l c =>
  have h1:=h l (by simp[Op.operands]);have h2:=h c (by simp[Op.operands])
  simp only[eY,jt,Agree.opnd h1,Agree.opnd h2];refine Alike.also ?_ (Agree.opOk h1) (Agree.opOk h2);unfold hO
  repeat' split
  all_goals first|exact qa|exact ru
 |call c =>
  have ha:∀x∈c.args.toList,ed E x=ed E' x:=fun x hx=>h x (by simp only[Op.operands,Call.operands,Array.toList_append,mem_append];exact .inr hx)
  simp only[eY];split
  .rename_i x y t u hcal hxy _
   have h1:=ha x (by rw[hxy];simp);have h2:=ha y (by rw[hxy];simp)
   simp only[Agree.opnd h1,Agree.opnd h2];refine Alike.also ?_ (Agree.opOk h1) (Agree.opOk h2);simp only[jt,hcal,hxy,Agree.opnd h1];generalize Vc.opnd E' x=dst;unfold pt;cases dst
   case buf o =>
    simp only[]
    repeat' split
    all_goals first|exact ru|exact⟨rfl,rfl,rfl,fun _ m=>Ay _ E' m⟩
   all_goals
    simp only[]
    repeat' split
    all_goals first|exact ru|exact qa
  .rename_i x hcal hx
   have h1:=ha x (by rw[hx];simp);simp only[jt,hcal,hx,Agree.opnd h1,Agree.opOk h1];exact qa
  .rename_i x y t u hcal hxy _
   have h1:=ha x (by rw[hxy];simp);have h2:=ha y (by rw[hxy];simp)
   simp only[jt,hcal,hxy,Agree.opnd h1,Agree.opnd h2,Agree.opOk h1,Agree.opOk h2];exact qa
  .rename_i x y t u hcal hxy _
   have h1:=ha x (by rw[hxy];simp);have h2:=ha y (by rw[hxy];simp)
   simp only[Agree.opnd h1,Agree.opnd h2];refine Alike.also ?_ (Agree.opOk h1) (Agree.opOk h2);simp only[jt,hcal,hxy];unfold oQ
   repeat' split
   all_goals first|exact qa|exact ru
  .exact ru
 |makeMap t r =>
  cases r with
  |none =>
   simp only[eY,nX,jt];split
   .exact qa
   .exact ru
  |some _=>exact ru
 |mapUpdate t m k x =>
  have h1:=h m (by simp[Op.operands]);have h2:=h k (by simp[Op.operands]);have h3:=h x (by simp[Op.operands])
  simp only[eY,jt,Agree.opnd h1,Agree.opnd h2,Agree.opnd h3];refine Alike.also3 ?_ (Agree.opOk h1) (Agree.opOk h2) (Agree.opOk h3);unfold jU
  repeat' split
  all_goals first|exact qa|exact ru
 |insert t m k x =>
  have h1:=h m (by simp[Op.operands]);have h2:=h k (by simp[Op.operands]);have h3:=h x (by simp[Op.operands])
  simp only[eY,jt,Agree.opnd h1,Agree.opnd h2,Agree.opnd h3];refine Alike.also3 ?_ (Agree.opOk h1) (Agree.opOk h2) (Agree.opOk h3);unfold jU
  repeat' split
  all_goals first|exact qa|exact ru
 |_=>exact ru
end
def looks(ops:Array Oper)(i:Nat):List Operand:=match ops[i]? with
 |some o=>o.op.operands.toList++match o.guard with
  |some (j,_)=>match (ops[j]?).bind (·.dst)with
   |some d=>[.tmp d]
   |none=>[]
  |none=>[]
 |none=>[]
def gC(ops:Array Oper)(i:Nat):Option Tmp:=(ops[i]?).bind (·.dst)
def pE:Option (Nat->Bool)->dz->dz
 |none,E=>E
 |some f,E=>ik f E
theorem jb(po:Option (Nat->Bool))(E:dz)(m:Nat):ei (pE po E) m=lU po (ei E m):=by
 cases po with
 |none=>rfl
 |some o=>exact Ay _ E m
theorem DA(E:dz)(d:Option Tmp)(v:Va)(m:Nat):ei (dV E d v) m=if d=some m then v else ei E m:=by
 cases d with
 |none=>simp[dV]
 |some d=>simp only[dV,ei,Option.some.injEq]
theorem Rel.ext{C:Cx}{E E':dz}{H:List Ob}{a:Act}{w:World}(h:∀m,ei E m=ei E' m)(hR:Rel C E H a w):Rel C E' H a w:=by
 obtain⟨K,G,h1,h2,h3,h4⟩:=hR;exact⟨K,G,h1,h2,fun m=>by rw[<-h m];exact h3 m,h4⟩
theorem Rel.drew{C:Cx}{E:dz}{H:List Ob}{a:Act}{w:World}(hR:Rel C E H a w)(d:Nat):Rel C E H a { w with drawn:=d }:=by
 obtain⟨K,G,h1,h2,h3,h4⟩:=hR;exact⟨K,G,{ h1 with },{ h2 with },h3,h4⟩
section
variable (P:Program) (kl:List Bool) (n:Nat) (B:Bs) (ops:Array Oper)
def Sr(i:Nat)(E:dz)(H:List Ob)(E':dz)(H':List Ob):Prop :=
 ∀(a:Act) (w:World) (Q:Exit->Act->World->Prop) (K:Act->World->Prop),Rel (cx P kl n B) E H a w->(∀a' w',Rel (cx P kl n B) E' H' a' w'->K a' w')->wpOp P ops Q i K a w
def Rdr(i:Nat)(S:dz)(v:Va)(H:List Ob):Prop:=∀E,Agree (looks ops i) S E->Sr P kl n B ops i E H (dV E (gC ops i) v) H
def Efr(i:Nat)(S:dz)(v:Va)(po:Option (Nat->Bool))(H H':List Ob):Prop:=∀E,Agree (looks ops i) S E->Sr P kl n B ops i E H (dV (pE po E) (gC ops i) v) H'
structure Pd where
 k:Nat
 S:dz
 v:Va
def Again(e:Pd)(po:Option (Nat->Bool))(H':List Ob):Prop:=Rdr P kl n B ops e.k e.S e.v H'/\lU po e.v=e.v/\Agree (looks ops e.k) e.S (pE po e.S)
def Hu(i:Nat):List Nat:=match ops[i]? with
 |some o=>(o.after.toList.filter (Region.binds .any ·)).map (·.on)
 |none=>[]
def PR:Nat->List Nat->List Nat
 |0,L=>L
 |m+1,L=>PR m ((L++L.flatMap (Hu ops)).eraseDups)
def vb(i k:Nat):Bool:=(PR ops 24 (Hu ops i)).contains k
def DC(listed:Array Bool):Prop:=∀i,listed.getD i false=true->∀j∈Hu ops i,listed.getD j false=true
def AnyO(K:dz->List Ob->Prop):Nat->List Pd->Array Bool->dz->List Ob->Prop
 |0,_,listed,E,H=>Region.ready .any ops listed=[]/\∃E2,(∀m,ei E m=ei E2 m)/\K E2 H
 |f+1,obs,listed,E,H=>(Region.ready .any ops listed=[]->∃E2,(∀m,ei E m=ei E2 m)/\K E2 H) /\
  ∀i∈Region.ready .any ops listed,∃v,(Rdr P kl n B ops i E v H/\AnyO K f obs (listed.setIfInBounds i true) (dV E (gC ops i) v) H) ∨
   (∃po H',Efr P kl n B ops i E v po H H'/\(∀e∈obs,vb ops i e.k=false->Again P kl n B ops e po H')/\AnyO K f obs (listed.setIfInBounds i true) (dV (pE po E) (gC ops i) v) H')
end
section
variable {P:Program} {kl:List Bool} {n:Nat} {B:Bs} {ops:Array Oper} {K:dz->List Ob->Prop}
theorem xO{listed:Array Bool}(hD:DC ops listed):∀(m:Nat) (L:List Nat),(∀x∈L,listed.getD x false=true)->∀x∈PR ops m L,listed.getD x false=true
 |0,L,h=>h
 |m+1,L,h=>xO hD m _ fun x hx=>by
  rw[mem_eraseDups,mem_append,mem_flatMap]at hx
  rcases hx with hx|⟨y,hy,hx⟩
  .exact h x hx
  .exact hD y (h y hy) x hx
theorem Q3{listed:Array Bool}{i:Nat}(h:i∈Region.ready .any ops listed):∀j∈Hu ops i,listed.getD j false=true:=by
 obtain⟨_,o,ho,hall⟩:=mem_ready.1 h;intro j hj;simp only[Hu,ho,mem_map,mem_filter]at hj;obtain⟨e,⟨he,hb⟩,rfl⟩:=hj;exact hall e (by simpa using he) hb
theorem FC{listed:Array Bool}(hD:DC ops listed){i k:Nat}(h:i∈Region.ready .any ops listed)(hk:listed.getD k false=false):vb ops i k=false:=by
 cases e:vb ops i k with
 |false=>rfl
 |true =>
  have:=xO hD 24 _ (Q3 h) k (by simpa [vb]using e)
  rw[this]at hk;cases hk
theorem mf{listed:Array Bool}{i j:Nat}(h:(listed.setIfInBounds i true).getD j false=true):j=i∨listed.getD j false=true:=by
 by_cases e:i=j
 .exact .inl e.symm
 .rw[getD_set_ne false e]at h;exact .inr h
theorem DC.set{listed:Array Bool}(hD:DC ops listed){i:Nat}(h:i∈Region.ready .any ops listed):DC ops (listed.setIfInBounds i true):=by
 intro x hx j hj
 rcases mf hx with rfl|hx
 .exact getD_set_true (Q3 h j hj)
 .exact getD_set_true (hD x hx j hj)
theorem Agree.refl(xs:List Operand)(E:dz):Agree xs E E:=fun _ _=>rfl
theorem Agree.trans{xs:List Operand}{E E' E2:dz}(h:Agree xs E E')(k:Agree xs E' E2):Agree xs E E2:=fun x hx=>(h x hx).trans (k x hx)
theorem Agree.symm{xs:List Operand}{E E':dz}(h:Agree xs E E'):Agree xs E' E:=fun x hx=>(h x hx).symm
theorem Agree.of_get{xs:List Operand}{E E':dz}(h:∀m,ei E m=ei E' m):Agree xs E E':=fun x _=>by
 cases x <;> first|rfl|exact h _
theorem Agree.put{xs:List Operand}{d:Option Tmp}(h:∀s,d=some s->.tmp s∉xs)(E:dz)(v:Va):Agree xs E (dV E d v):=fun x hx=>by
 cases x with
 |tmp t=>simp only[ed,DA];rw[if_neg fun e=>h t e hx]
 |_=>rfl
theorem Rdr.agree{i:Nat}{S S':dz}{v:Va}{H:List Ob}(h:Rdr P kl n B ops i S v H)(k:Agree (looks ops i) S S'):Rdr P kl n B ops i S' v H:=fun E hE=>h E (k.trans hE)
theorem Efr.agree{i:Nat}{S S':dz}{v:Va}{po:Option (Nat->Bool)}{H H':List Ob}(h:Efr P kl n B ops i S v po H H')(k:Agree (looks ops i) S S'):Efr P kl n B ops i S' v po H H':=fun E hE=>h E (k.trans hE)
theorem wC{xs:List Operand}{po:Option (Nat->Bool)}{S S':dz}(h:Agree xs S S'):Agree xs (pE po S) (pE po S'):=fun x hx=>by
 have:=h x hx
 cases x with
 |tmp t=>simp only[ed,jb]at *;rw[this]
 |_=>rfl
theorem Again.agree{e:Pd}{S':dz}{po:Option (Nat->Bool)}{H':List Ob}(h:Again P kl n B ops e po H')(k:Agree (looks ops e.k) e.S S'):Again P kl n B ops ⟨e.k,S',e.v⟩ po H' :=
 ⟨h.1.agree k,h.2.1,(k.symm.trans h.2.2).trans (wC k)⟩
theorem AnyO.tail{e:Pd}:∀(f:Nat) {obs:List Pd} {listed:Array Bool} {E:dz} {H:List Ob},AnyO P kl n B ops K f (e::obs) listed E H->AnyO P kl n B ops K f obs listed E H
 |0,_,_,_,_,h=>h
 |f+1,_,_,_,_,h=>⟨h.1,fun i hi=>by
  obtain⟨v,h1|⟨po,H',h1,h2,h3⟩⟩:=h.2 i hi
  .exact⟨v,.inl ⟨h1.1,AnyO.tail f h1.2⟩⟩
  .exact⟨v,.inr ⟨po,H',h1,fun e' he=>h2 e' (mem_cons_of_mem _ he),AnyO.tail f h3⟩⟩⟩
theorem AnyO.swap{k:Nat}{S S':dz}{v:Va}(hk:Agree (looks ops k) S S'):∀(f:Nat) {obs:List Pd} {listed:Array Bool} {E:dz} {H:List Ob},AnyO P kl n B ops K f (⟨k,S,v⟩::obs) listed E H->AnyO P kl n B ops K f (⟨k,S',v⟩::obs) listed E H
 |0,_,_,_,_,h=>h
 |f+1,_,_,_,_,h=>⟨h.1,fun i hi=>by
  obtain⟨v,h1|⟨po,H',h1,h2,h3⟩⟩:=h.2 i hi
  .exact⟨v,.inl ⟨h1.1,AnyO.swap hk f h1.2⟩⟩
  .refine⟨v,.inr ⟨po,H',h1,fun e' he ha=>?_,AnyO.swap hk f h3⟩⟩
   rcases mem_cons.1 he with rfl|he
   .exact(h2 _ (mem_cons_self ..) ha).agree hk
   .exact h2 e' (mem_cons_of_mem _ he) ha⟩
theorem AnyO.ext:∀(f:Nat) {obs:List Pd} {listed:Array Bool} {E E':dz} {H:List Ob},(∀m,ei E m=ei E' m)->AnyO P kl n B ops K f obs listed E H->AnyO P kl n B ops K f obs listed E' H
 |0,_,_,_,_,_,he,h=>⟨h.1,by obtain⟨E2,h1,h2⟩:=h.2;exact⟨E2,fun m=>(he m).symm.trans (h1 m),h2⟩⟩
 |f+1,_,_,E,E',_,he,h=>⟨fun hr=>by obtain⟨E2,h1,h2⟩:=h.1 hr;exact⟨E2,fun m=>(he m).symm.trans (h1 m),h2⟩,fun i hi=>by
  obtain⟨v,h1|⟨po,H',h1,h2,h3⟩⟩:=h.2 i hi
  .exact⟨v,.inl ⟨h1.1.agree (Agree.of_get he),AnyO.ext f (fun m=>by simp only[DA];split;rfl;exact he m) h1.2⟩⟩
  .exact⟨v,.inr ⟨po,H',h1.agree (Agree.of_get he),h2,AnyO.ext f (fun m=>by simp only[DA,jb];split;rfl;rw[he m]) h3⟩⟩⟩
theorem pu{i j:Nat}{oi oj:Oper}(hi:ops[i]?=some oi)(hj:ops[j]?=some oj)(h:oi.apart ops oj=true) :
  (∀d,gC ops i=some d->.tmp d∉looks ops j)/\(∀d,gC ops j=some d->.tmp d∉looks ops i)/\(∀d,gC ops i=some d->gC ops j≠some d):=by
 obtain⟨h1,h2,h3⟩:=Oper.apart_spec h
 have key:∀(k:Nat) (o:Oper) (d:Tmp),ops[k]?=some o->.tmp d∈looks ops k->d∈o.looksAt ops:=by
  intro k o d ho hm;simp only[looks,ho,mem_append]at hm;unfold Oper.looksAt;rw[mem_append]
  rcases hm with hm|hm
  .exact .inl (mem_filterMap.2 ⟨.tmp d,by simpa using hm,rfl⟩)
  .refine .inr ?_
   cases hg:o.guard with
   |none=>rw[hg]at hm;simp at hm
   |some gw =>
    obtain⟨g,want⟩:=gw;rw[hg]at hm;simp only at hm|-
    cases hd:(ops[g]?).bind (·.dst)with
    |none=>rw[hd]at hm;simp at hm
    |some t=>rw[hd]at hm;simp at hm|-;exact hm
 simp only[gC,hi,hj,Option.bind_some];exact⟨fun d hd hm=>h1 d hd (key j oj d hj hm),fun d hd hm=>h3 d hd (key i oi d hi hm),h2⟩
theorem AnyO.first{k:Nat}{ok:Oper}{v:Va}(hk:ops[k]?=some ok):∀(f:Nat) {obs:List Pd} {listed:Array Bool} {E:dz} {H:List Ob},
  (∀j oj,ops[j]?=some oj->j≠k->listed.getD j true=false->(∀e∈oj.after,Region.binds .any e=true->e.on≠k)->ok.apart ops oj=true)->DC ops listed ->
  k∈Region.ready .any ops listed->Rdr P kl n B ops k E v H->AnyO P kl n B ops K f (⟨k,E,v⟩::obs) (listed.setIfInBounds k true) (dV E (gC ops k) v) H->AnyO P kl n B ops K (f+1) obs listed E H:=by
 intro f
 induction f with
 |zero =>
  intro obs listed E H _ _ hr hv h;refine⟨fun e=>(by rw[e]at hr;cases hr),fun j hj=>?_⟩
  by_cases e:j=k
  .subst e;exact⟨v,.inl ⟨hv,AnyO.tail 0 h⟩⟩
  .have:=ready_mono hj e
   rw[h.1]at this;cases this
 |succ f ih =>
  intro obs listed E H hfree hD hr hv h;refine⟨fun e=>(by rw[e]at hr;cases hr),fun j hj=>?_⟩
  by_cases e:j=k
  .subst e;exact⟨v,.inl ⟨hv,AnyO.tail (f+1) h⟩⟩
  obtain⟨hjun,oj,hoj,hall⟩:=mem_ready.1 hj;have hkun:=(mem_ready.1 hr).1
  have hkf:listed.getD k false=false:=by
   rcases Nat.lt_or_ge k listed.size with h'|h'
   .simp[h']at hkun|-;exact hkun
   .simp[h']at hkun
  have hnot:∀e∈oj.after,Region.binds .any e=true->e.on≠k:=fun e he hb heq=>by
   have h1:=hall e he hb
   rw[heq,hkf]at h1;cases h1
  obtain⟨a1,a2,a3⟩:=pu hk hoj (hfree j oj hoj e hjun hnot)
  have hfree':∀i oi,ops[i]?=some oi->i≠k->(listed.setIfInBounds j true).getD i true=false->(∀e∈oi.after,Region.binds .any e=true->e.on≠k)->ok.apart ops oi=true:=fun i oi hi hik hun hno=>by
   refine hfree i oi hi hik ?_ hno
   by_cases hji:j=i
   .subst hji;exact hjun
   .rw[getD_set_ne true hji]at hun;exact hun
  have hr':=ready_mono hr (Ne.symm e);obtain⟨u,h1|⟨po,H',h1,h2,h3⟩⟩:=h.2 j (ready_mono hj e)
  .refine⟨u,.inl ⟨h1.1.agree (Agree.put a1 E v).symm,ih hfree' (hD.set hj) hr' (hv.agree (Agree.put a2 E u)) ?_⟩⟩
   have h4:=AnyO.swap (Agree.put a2 E u) f h1.2;rw[Array.setIfInBounds_comm _ _ e];refine AnyO.ext f (fun m=>?_) h4;simp only[DA]
   by_cases c1:gC ops k=some m
   .rw[if_neg (a3 m c1),if_pos c1,if_pos c1]
   .simp only[if_neg c1]
  .have hag:=h2 ⟨k,E,v⟩ (mem_cons_self ..) (FC hD hj hkf)
   have hE':Agree (looks ops k) E (dV (pE po E) (gC ops j) u):=hag.2.2.trans (Agree.put a2 _ u);refine⟨u,.inr ⟨po,H',h1.agree (Agree.put a1 E v).symm,fun e' he=>h2 e' (mem_cons_of_mem _ he),ih hfree' (hD.set hj) hr' (hag.1.agree hE') ?_⟩⟩;have h4:=AnyO.swap hE' f h3;rw[Array.setIfInBounds_comm _ _ e];refine AnyO.ext f (fun m=>?_) h4;simp only[DA,jb]
   by_cases c1:gC ops k=some m
   .rw[if_neg (a3 m c1),if_pos c1,if_pos c1];exact hag.2.1
   .simp only[if_neg c1]
theorem cA{Q:Exit->Act->World->Prop}:∀(f:Nat) {obs:List Pd} {listed:Array Bool} {E:dz} {H:List Ob} {a:Act} {w:World},AnyO P kl n B ops K f obs listed E H->Rel (cx P kl n B) E H a w ->
  (∀E' H' a' w',K E' H'->Rel (cx P kl n B) E' H' a' w'->Q .normal a' w')->wpAny P .any ops Q f listed a w
 |0,_,_,_,_,_,_,h,hR,hK=>⟨h.1,by obtain⟨E2,h1,h2⟩:=h.2;exact hK _ _ _ _ h2 (hR.ext h1)⟩
 |f+1,_,_,_,_,_,_,h,hR,hK=>⟨fun hr=>by obtain⟨E2,h1,h2⟩:=h.1 hr;exact hK _ _ _ _ h2 (hR.ext h1),fun i hi=>by
  obtain⟨v,h1|⟨po,H',h1,h2,h3⟩⟩:=h.2 i hi
  .exact h1.1 _ (Agree.refl _ _) _ _ _ _ hR fun a' w' hR'=>cA f h1.2 hR' hK
  .exact h1 _ (Agree.refl _ _) _ _ _ _ hR fun a' w' hR'=>cA f h3 hR' hK⟩
end
inductive Plan where
 |nil
 |rd (k:Nat) (l:Plan)
 |ef (k:Nat) (L:List Nat) (l:Plan)
 |fk (k:Nat) (L:List Nat) (l:Plan) (k':Nat) (L':List Nat) (l':Plan)
 |f3 (k:Nat) (L:List Nat) (l:Plan) (k':Nat) (L':List Nat) (l':Plan) (j:Nat) (M:List Nat) (m:Plan)
def Plan.length:Plan->Nat
 |.nil=>0
 |.rd _ l=>l.length+1
 |.ef _ _ l=>l.length+1
 |.fk _ _ l _ _ _=>l.length+1
 |.f3 _ _ l _ _ _ _ _ _=>l.length+1
def pl:List (Nat×Option (List Nat))->Plan
 |[]=>.nil
 |(k,none)::l=>.rd k (pl l)
 |(k,some L)::l=>.ef k L (pl l)
def jy(ops:Array Oper):Plan->List Nat->Array Bool->Bool
 |.nil,_,listed=>(Region.ready .any ops listed).isEmpty
 |.rd k l,done,listed=>(Region.ready .any ops listed).contains k&&Region.free .any ops listed k&&jy ops l (k::done) (listed.setIfInBounds k true)
 |.ef k L l,done,listed=>(Region.ready .any ops listed == [k])&&done.all (fun j=>vb ops k j||L.contains j)&&jy ops l done (listed.setIfInBounds k true)
 |.fk k L l k' L' l',done,listed=>(Region.ready .any ops listed).all (fun i=>i == k||i == k')&&(Region.ready .any ops listed).contains k&&done.all (fun j=>vb ops k j||L.contains j)&&done.all (fun j=>vb ops k' j||L'.contains j)&&(l'.length == l.length) &&
   jy ops l done (listed.setIfInBounds k true)&&jy ops l' done (listed.setIfInBounds k' true)
 |.f3 k L l k' L' l' j M m,done,listed=>(Region.ready .any ops listed).all (fun i=>i == k||(i == k'||i == j))&&(Region.ready .any ops listed).contains k&&done.all (fun j=>vb ops k j||L.contains j)&&done.all (fun j=>vb ops k' j||L'.contains j)&&done.all (fun i=>vb ops j i||M.contains i)&&(l'.length == l.length)&&(m.length == l.length) &&
   jy ops l done (listed.setIfInBounds k true)&&jy ops l' done (listed.setIfInBounds k' true)&&jy ops m done (listed.setIfInBounds j true)
structure En where
 k:Nat
 S:dz
 v:Va
 re:Option (Nat->Bool)->List Ob->Prop
def FO(o:Nat->Bool)(S:dz):List Operand->Prop
 |[]=>True
 |.tmp t::xs=>(ei S t).prune o=ei S t/\FO o S xs
 |_::xs=>FO o S xs
def vu(L:List Nat)(po:Option (Nat->Bool))(H':List Ob):List En->Prop
 |[]=>True
 |e::l=>(bif L.contains e.k then e.re po H' else True)/\vu L po H' l
section
variable (P:Program) (kl:List Bool) (n:Nat) (B:Bs) (ops:Array Oper)
def En.ok(e:En):Prop:=∀po H',e.re po H'->Again P kl n B ops ⟨e.k,e.S,e.v⟩ po H'
def Dr(l:Plan)(obs:List En)(E:dz)(H:List Ob)(K:dz->List Ob->Prop):Prop :=
 B.G0.length=kl.length->(∀e∈obs,e.ok P kl n B ops)->∀listed,DC ops listed->jy ops l (obs.map (·.k)) listed=true->AnyO P kl n B ops K l.length (obs.map fun e=>⟨e.k,e.S,e.v⟩) listed E H
def Br(k:Nat)(L:List Nat)(l:Plan)(obs:List En)(E:dz)(H:List Ob)(K:dz->List Ob->Prop):Prop :=
 B.G0.length=kl.length->(∀e∈obs,e.ok P kl n B ops)->∀listed,DC ops listed->k∈Region.ready .any ops listed->(obs.map (·.k)).all (fun j=>vb ops k j||L.contains j)=true->jy ops l (obs.map (·.k)) (listed.setIfInBounds k true)=true ->
  ∃v,(Rdr P kl n B ops k E v H/\AnyO P kl n B ops K l.length (obs.map fun e=>⟨e.k,e.S,e.v⟩) (listed.setIfInBounds k true) (dV E (gC ops k) v) H) ∨
   (∃po H',Efr P kl n B ops k E v po H H'/\(∀e∈obs.map (fun e=>(⟨e.k,e.S,e.v⟩:Pd)),vb ops k e.k=false->Again P kl n B ops e po H') /\
    AnyO P kl n B ops K l.length (obs.map fun e=>⟨e.k,e.S,e.v⟩) (listed.setIfInBounds k true) (dV (pE po E) (gC ops k) v) H')
end
section
variable {P:Program} {kl:List Bool} {n:Nat} {B:Bs} {ops:Array Oper} {K:dz->List Ob->Prop} {l:Plan} {obs:List En} {E:dz} {H:List Ob}
theorem Dr.nil(h:K E H):Dr P kl n B ops .nil obs E H K:=fun _ _ listed _ hp=>⟨by simpa [jy]using hp,E,fun _=>rfl,h⟩
theorem wi{k:Nat}{listed:Array Bool}(h:k∈Region.ready .any ops listed):∃o,ops[k]?=some o:=by
 obtain⟨_,o,ho,_⟩:=mem_ready.1 h;exact⟨o,ho⟩
theorem Dr.read{k:Nat}{v:Va}{re:Option (Nat->Bool)->List Ob->Prop}(hr:B.G0.length=kl.length->Rdr P kl n B ops k E v H)(ho:B.G0.length=kl.length->En.ok P kl n B ops ⟨k,E,v,re⟩)(h:Dr P kl n B ops l (⟨k,E,v,re⟩::obs) (dV E (gC ops k) v) H K) :
  Dr P kl n B ops (.rd k l) obs E H K:=by
 intro hB hobs listed hD hp;simp only[jy,Bool.and_eq_true]at hp;obtain⟨⟨h1,h2⟩,h3⟩:=hp
 have hk:k∈Region.ready .any ops listed:=by simpa using h1
 obtain⟨o,hko⟩:=wi hk
 exact AnyO.first hko l.length (Region.free_spec hko h2) hD hk (hr hB) (h hB (fun e he=>by
  rcases mem_cons.1 he with rfl|he
  .exact ho hB
  .exact hobs e he) _ (hD.set hk) h3)
theorem QN{L:List Nat}{po:Option (Nat->Bool)}{H':List Ob}:∀{obs:List En},vu L po H' obs->∀e∈obs,L.contains e.k=true->e.re po H'
 |[],_,_,he,_=>by cases he
 |e0::obs,h,e,he,hc=>by
  rcases mem_cons.1 he with rfl|he
  .have:=h.1;rw[hc]at this;exact this
  .exact QN h.2 e he hc
theorem Br.eff{k:Nat}{v:Va}{po:Option (Nat->Bool)}{H':List Ob}{L:List Nat}(hr:B.G0.length=kl.length->Efr P kl n B ops k E v po H H')(ha:vu L po H' obs)(h:Dr P kl n B ops l obs (dV (pE po E) (gC ops k) v) H' K) :
  Br P kl n B ops k L l obs E H K:=by
 intro hB hobs listed hD hk h2 h3;refine⟨v,.inr ⟨po,H',hr hB,fun e he hna=>?_,h hB hobs _ (hD.set hk) h3⟩⟩;obtain⟨e',he',rfl⟩:=mem_map.1 he;rw[all_eq_true]at h2;have h4:=h2 e'.k (mem_map.2 ⟨e',he',rfl⟩);simp only at hna;rw[hna,Bool.false_or]at h4;exact hobs e' he' po H' (QN ha e' he' h4)
theorem Br.skip{k:Nat}{v:Va}{L:List Nat}(hr:B.G0.length=kl.length->Rdr P kl n B ops k E v H)(h:Dr P kl n B ops l obs (dV E (gC ops k) v) H K) :
  Br P kl n B ops k L l obs E H K:=by
 intro hB hobs listed hD hk h2 h3;exact⟨v,.inl ⟨hr hB,h hB hobs _ (hD.set hk) h3⟩⟩
theorem ce{k:Nat}{L:List Nat}(h:Br P kl n B ops k L l obs E H K):Dr P kl n B ops (.ef k L l) obs E H K:=by
 intro hB hobs listed hD hp;simp only[jy,Bool.and_eq_true,beq_iff_eq]at hp;obtain⟨⟨h1,h2⟩,h3⟩:=hp
 have hk:k∈Region.ready .any ops listed:=by rw[h1];simp
 refine⟨fun e=>(by rw[h1]at e;cases e),fun i hi=>?_⟩;rw[h1]at hi
 obtain rfl:i=k:=by simpa using hi
 exact h hB hobs listed hD hk h2 h3
theorem Dr.fk{k k':Nat}{L L':List Nat}{l':Plan}(h:Br P kl n B ops k L l obs E H K)(h':Br P kl n B ops k' L' l' obs E H K):Dr P kl n B ops (.fk k L l k' L' l') obs E H K:=by
 intro hB hobs listed hD hp;simp only[jy,Bool.and_eq_true,beq_iff_eq]at hp;obtain⟨⟨⟨⟨⟨⟨h1,hc⟩,h2⟩,h2'⟩,hl⟩,h3⟩,h3'⟩:=hp
 have hk:k∈Region.ready .any ops listed:=by simpa using hc
 refine⟨fun e=>(by rw[e]at hk;cases hk),fun i hi=>?_⟩;have hik:=all_eq_true.1 h1 i hi;simp only[Bool.or_eq_true,beq_iff_eq]at hik
 rcases hik with rfl|rfl
 .exact h hB hobs listed hD hi h2 h3
 .have:=h' hB hobs listed hD hi h2' h3'
  rw[hl]at this;exact this
theorem Dr.eff{k:Nat}{v:Va}{po:Option (Nat->Bool)}{H':List Ob}{L:List Nat}(hr:B.G0.length=kl.length->Efr P kl n B ops k E v po H H')(ha:vu L po H' obs)(h:Dr P kl n B ops l obs (dV (pE po E) (gC ops k) v) H' K) :
  Dr P kl n B ops (.ef k L l) obs E H K:=ce (Br.eff hr ha h)
theorem cK{id:Nat}{os:List Oper}{Q:Qt}(plan:Plan)(hm:P.follows .mixedOrders=true)(hl:plan.length=os.length)(hp:jy os.toArray plan [] (Array.replicate os.length false)=true)
  (h:∀K:dz->List Ob->Prop,(∀E H,Q .normal E H->K E H)->Dr P kl n B os.toArray plan [] E H K):Wp P kl n B (.region id os.toArray true) Q E H:=by
 intro hB a w hR;refine wp_region_any hm ?_
 have hD:DC os.toArray (Array.replicate os.length false):=fun i hi=>by
  simp[Array.getD_eq_getD_getElem?,Array.getElem?_replicate]at hi
  split at hi <;> simp at hi
 have h1:=h (Q .normal) (fun _ _ h=>h) hB (fun _ he=>by cases he) _ hD hp;rw[hl]at h1;rw[show os.toArray.size=os.length by simp]
 exact cA _ h1 (hR.drew _) fun E' H' a' w' h1 h2=>⟨E',H',h1,h2⟩
theorem DV{E':dz}{k j:Nat}{o:Oper}{want:Bool}(hk:ops[k]?=some o)(hg:o.guard=some (j,want))(h:Agree (looks ops k) E E'):jC ops.toList E' j want=jC ops.toList E j want:=by
 unfold jC;rw[Array.getElem?_toList]
 cases hj:ops[j]? with
 |none=>rfl
 |some oj =>
  simp only
  cases hd:oj.dst with
  |none=>rfl
  |some d =>
   have:ed E (.tmp d)=ed E' (.tmp d):=h _ (by simp[looks,hk,hg,hj,hd]);simp only[ed]at this;simp only[this]
theorem Cb{k:Nat}{o:Oper}{E':dz}(hk:ops[k]?=some o)(h:Agree (looks ops k) E E'):Agree o.op.operands.toList E E':=fun x hx=>h x (by simp only[looks,hk,mem_append];exact .inl hx)
theorem nK{k:Nat}{o:Oper}(hk:ops[k]?=some o)(hg:o.guard=none)(hd:gv n o.dst)(hok:(eR P true E H o.op).ok):Rdr P kl n B ops k E (eR P true E H o.op).v H:=by
 intro E' hE' a w Q K' hR hK;rw[QZ o.op (Cb hk hE')]at hok hK
 have hdd:gC ops k=o.dst:=by simp[gC,hk]
 rw[hdd]at hK;unfold wpOp;simp only[hk];rw[if_pos (by simp[Region.wanted,hg])];refine .inl ?_;obtain⟨Kk,G,hX,hS,hE,hdf,hn,hkp⟩:=hR;obtain⟨c,hr,hv⟩:=KV (P:=P) hS hE rfl o hok;unfold Oper.wp;rw[hr];have hRV:RelV (cx P kl n B) E' H c (eR P true E' H o.op).v a w:=⟨Kk,G,hX,hS,hE,hdf,hn,hkp,hv⟩;exact hK _ _ (hRV.put o.dst (zZ hd))
theorem Q1{k:Nat}{o:Oper}{j:Nat}{want g:Bool}(hk:ops[k]?=some o)(hg:o.guard=some (j,want))(hb:jC ops.toList E j want=some g)(hd:gv n o.dst)(hok:g=true->(eR P g E H o.op).ok) :
  Rdr P kl n B ops k E (.cnd g (eR P g E H o.op).v) H:=by
 intro E' hE' a w Q K' hR hK;have hc:=QZ (P:=P) (g:=g) (H:=H) o.op (Cb hk hE');rw[hc]at hok;rw[<-DV hk hg hE']at hb
 have hdd:gC ops k=o.dst:=by simp[gC,hk]
 rw[hdd,hc]at hK;have hw:=sZ hR hg hb;unfold wpOp;simp only[hk];have hR':=hR;obtain⟨Kk,G,hX,hS,hE,hdf,hn,hkp⟩:=hR'
 cases g with
 |true =>
  rw[if_pos hw];refine .inl ?_;obtain⟨c,hr,hv⟩:=KV (P:=P) hS hE rfl o (hok rfl);unfold Oper.wp;rw[hr];have hRV:RelV (cx P kl n B) E' H c (.cnd true (eR P true E' H o.op).v) a w:=⟨Kk,G,hX,hS,hE,hdf,hn,hkp,by simp only[VR];exact⟨fun _=>hv,fun e=>Bool.noConfusion e⟩⟩;exact hK _ _ (hRV.put o.dst (zZ hd))
 |false =>
  rw[if_neg (by rw[hw];simp)];have hRV:RelV (cx P kl n B) E' H undef (.cnd false (eR P false E' H o.op).v) a w:=⟨Kk,G,hX,hS,hE,hdf,hn,hkp,by simp[VR]⟩;exact hK _ _ (hRV.put o.dst (zZ hd))
theorem xq{k:Nat}{o:Oper}(hk:ops[k]?=some o)(hg:o.guard=none)(hd:gv n o.dst)(hok:(eY P (dG kl) E H o.op).ok):Efr P kl n B ops k E (eY P (dG kl) E H o.op).v (jt E o.op) H (eY P (dG kl) E H o.op).H:=by
 intro E' hE' a w Q K' hR hK;obtain⟨c1,c2,c3,c4⟩:=Qd (P:=P) (H:=H) (kp:=dG kl) o.op (Cb hk hE')
 have hok':(eY P (dG kl) E' H o.op).ok:=by rw[c3];exact hok
 have hdd:gC ops k=o.dst:=by simp[gC,hk]
 rw[hdd]at hK;unfold wpOp;simp only[hk];rw[if_pos (by simp[Region.wanted,hg])];refine .inl ?_;obtain⟨c,w',hr,hR'⟩:=q0 (cx P kl n B) E' H o hok' a w hR
 have eu:Rel (cx P kl n B) (dV (pE (jt E o.op) E') o.dst (eY P (dG kl) E H o.op).v) (eY P (dG kl) E H o.op).H (a.put o.dst c) w':=by
  have:=hR'.put o.dst (zZ hd);simp only[c1,c2]at this
  exact this.ext fun m=>by simp only[DA,jb];rw[c4 hok m]
 unfold Oper.wp
 rcases hr with hr|⟨hr,rfl⟩
 .rw[hr];exact hK _ _ eu
 .rw[hr];exact hK _ _ eu
theorem Bw{k:Nat}{o:Oper}{j:Nat}{want:Bool}(hk:ops[k]?=some o)(hg:o.guard=some (j,want))(hb:jC ops.toList E j want=some true)(hd:gv n o.dst)(hok:(eY P (dG kl) E H o.op).ok):Efr P kl n B ops k E (.cnd true (eY P (dG kl) E H o.op).v) (jt E o.op) H (eY P (dG kl) E H o.op).H:=by
 intro E' hE' a w Q K' hR hK;obtain⟨c1,c2,c3,c4⟩:=Qd (P:=P) (H:=H) (kp:=dG kl) o.op (Cb hk hE')
 have hok':(eY P (dG kl) E' H o.op).ok:=by rw[c3];exact hok
 have hdd:gC ops k=o.dst:=by simp[gC,hk]
 rw[hdd]at hK;unfold wpOp;simp only[hk];rw[<-DV hk hg hE']at hb;rw[if_pos (sZ hR hg hb)];refine .inl ?_;obtain⟨c,w',hr,hR'⟩:=q0 (cx P kl n B) E' H o hok' a w hR
 have eu:Rel (cx P kl n B) (dV (pE (jt E o.op) E') o.dst (.cnd true (eY P (dG kl) E H o.op).v)) (eY P (dG kl) E H o.op).H (a.put o.dst c) w':=by
  have hRc:RelV (cx P kl n B) (eY P (dG kl) E' H o.op).E (eY P (dG kl) E' H o.op).H c (.cnd true (eY P (dG kl) E' H o.op).v) a w':=by
   obtain⟨Kk,G,q1,q2,q3,q4,q5,q6,q7⟩:=hR';exact⟨Kk,G,q1,q2,q3,q4,q5,q6,by simp only[VR];exact⟨fun _=>q7,fun e=>Bool.noConfusion e⟩⟩
  have:=hRc.put o.dst (zZ hd);simp only[c1,c2]at this
  exact this.ext fun m=>by simp only[DA,jb];rw[c4 hok m]
 unfold Oper.wp
 rcases hr with hr|⟨hr,rfl⟩
 .rw[hr];exact hK _ _ eu
 .rw[hr];exact hK _ _ eu
end
def iz:Option (Nat×Bool)->Bool->Va->Va
 |none,_,v=>v
 |some _,g,v=>.cnd g v
def rZ(ops:List Oper)(o:Oper):List Operand:=o.op.operands.toList++match o.guard with
 |some (j,_)=>match ops[j]? with
  |some oj=>match oj.dst with
   |some d=>[.tmp d]
   |none=>[]
  |none=>[]
 |none=>[]
def Kz(ops:List Oper)(o:Oper)(S:dz)(v:Va):Option (Nat->Bool)->Prop
 |none=>True
 |some p=>v.prune p=v/\FO p S (rZ ops o)
def wm(P:Program)(ops:List Oper)(o:Oper)(g:Bool)(E:dz)(v:Va)(po:Option (Nat->Bool))(H':List Ob):Prop :=
 (g=true->(eR P g E H' o.op).ok)/\iz o.guard g (eR P g E H' o.op).v=v/\Kz ops o E v po
def qE(ops:List Oper)(o:Oper)(E:dz)(v:Va)(av args:List Va)(po:Option (Nat->Bool))(H':List Ob):Prop :=
 jO H' av=some args/\Kz ops o E v po
structure Aw where
 obs:List En
 E:dz
 H:List Ob
 ok:Prop
def oS(P:Program)(n:Nat)(ops:List Oper)(k:Nat)(o:Oper)(g:Bool)(aw:Aw)(r:Pv):Aw :=
 ⟨⟨k,aw.E,iz o.guard g r.v,wm P ops o g aw.E (iz o.guard g r.v)⟩::aw.obs,dV aw.E o.dst (iz o.guard g r.v),aw.H,aw.ok/\gv n o.dst/\(g=true->r.ok)⟩
def xG(n:Nat)(o:Oper)(L:List Nat)(po:Option (Nat->Bool))(aw:Aw)(r:Ev):Aw :=
 ⟨aw.obs,dV (pE po aw.E) o.dst r.v,r.H,aw.ok/\gv n o.dst/\r.ok/\vu L po r.H aw.obs⟩
def xF(n:Nat)(o:Oper)(L:List Nat)(po:Option (Nat->Bool))(aw:Aw)(r:Ev):Aw :=
 ⟨aw.obs,dV (pE po aw.E) o.dst (.cnd true r.v),r.H,aw.ok/\gv n o.dst/\r.ok/\vu L po r.H aw.obs⟩
def xE(n:Nat)(o:Oper)(aw:Aw):Aw:=⟨aw.obs,dV aw.E o.dst (.cnd false .top),aw.H,aw.ok/\gv n o.dst⟩
inductive Rd where
 |done (aw:Aw)
 |stop (l:Plan) (aw:Aw)
def x9:Rd:=.done ⟨[],[],[],False⟩
def zkT(P:Program)(kl:List Bool)(n:Nat)(ops:List Oper):Plan->Aw->Rd
 |.nil,aw=>.done aw
 |.fk k L l k' L' l',aw=>.stop (.fk k L l k' L' l') aw
 |.f3 k L l k' L' l' j M m,aw=>.stop (.f3 k L l k' L' l' j M m) aw
 |.rd k l,aw=>match ops[k]? with
  |some o=>if me P o=true then .stop (.rd k l) aw else match o.guard with
   |none=>zkT P kl n ops l (oS P n ops k o true aw (eR P true aw.E aw.H o.op))
   |some (j,want)=>match jC ops aw.E j want with
    |some g=>zkT P kl n ops l (oS P n ops k o g aw (eR P g aw.E aw.H o.op))
    |none=>x9
  |none=>x9
 |.ef k L l,aw=>match ops[k]? with
  |some o=>if me P o=true then .stop (.ef k L l) aw else match o.guard with
   |none=>zkT P kl n ops l (xG n o L (jt aw.E o.op) aw (eY P (dG kl) aw.E aw.H o.op))
   |some (j,want)=>match jC ops aw.E j want with
    |some true=>zkT P kl n ops l (xF n o L (jt aw.E o.op) aw (eY P (dG kl) aw.E aw.H o.op))
    |some false=>zkT P kl n ops l (xE n o aw)
    |none=>x9
  |none=>x9
def mY(P:Program)(kl:List Bool)(n:Nat)(B:Bs)(ops:Array Oper)(K:dz->List Ob->Prop):Rd->Prop
 |.done aw=>aw.ok/\K aw.E aw.H
 |.stop l aw=>aw.ok/\Dr P kl n B ops l aw.obs aw.E aw.H K
section
variable {P:Program} {kl:List Bool} {n:Nat} {B:Bs} {ops:List Oper} {K:dz->List Ob->Prop} {l:Plan} {obs:List En} {E:dz} {H:List Ob}
theorem wU{k:Nat}{o:Oper}(hk:ops[k]?=some o):looks ops.toArray k=rZ ops o:=by
 unfold looks rZ;simp only[getElem?_toArray,hk]
 cases o.guard with
 |none=>rfl
 |some gw =>
  obtain⟨j,want⟩:=gw;simp only
  cases ops[j]? with
  |none=>rfl
  |some oj =>
   simp only[Option.bind_some]
   first
    |done
    |(cases oj.dst <;> rfl)
theorem lh{p:Nat->Bool}{S:dz}:∀{xs:List Operand},FO p S xs->Agree xs S (ik p S)
 |[],_,x,hx=>by cases hx
 |y::ys,h,x,hx=>by
  rcases mem_cons.1 hx with rfl|hx
  .cases x with
   |tmp t=>simp only[ed,Ay];exact h.1.symm
   |_=>rfl
  .have:FO p S ys:=by cases y <;> first|exact h.2|exact h
   exact lh this x hx
theorem mK{k:Nat}{o:Oper}(hk:ops[k]?=some o){S:dz}{v:Va}{po:Option (Nat->Bool)}(h:Kz ops o S v po):lU po v=v/\Agree (looks ops.toArray k) S (pE po S):=by
 cases po with
 |none=>exact⟨rfl,Agree.refl _ _⟩
 |some p=>exact⟨h.1,by rw[wU hk];exact lh h.2⟩
theorem AB{o:Oper}(hg:o.guard=none)(g:Bool)(v:Va):iz o.guard g v=v:=by rw[hg];rfl
theorem vz{o:Oper}{x:Nat×Bool}(hg:o.guard=some x)(g:Bool)(v:Va):iz o.guard g v=.cnd g v:=by rw[hg];rfl
theorem vx{os:List Oper}:∀{l:Plan} {aw:Aw},mY P kl n B os.toArray K (zkT P kl n ops l aw)->aw.ok
 |.nil,aw,h=>h.1
 |.fk _ _ _ _ _ _,aw,h=>h.1
 |.f3 _ _ _ _ _ _ _ _ _,aw,h=>h.1
 |.rd k l,aw,h=>by
  unfold zkT at h;split at h
  .split at h
   .exact h.1
   .split at h
    .exact(vx h).1
    .split at h
     .exact(vx h).1
     .exact h.1.elim
  .exact h.1.elim
 |.ef k L l,aw,h=>by
  unfold zkT at h;split at h
  .split at h
   .exact h.1
   .split at h
    .exact(vx h).1
    .split at h
     .exact(vx h).1
     .exact(vx h).1
     .exact h.1.elim
  .exact h.1.elim
theorem jo{k:Nat}{o:Oper}(hk:ops[k]?=some o):ops.toArray[k]?=some o:=by rw[getElem?_toArray];exact hk
theorem mZ{k:Nat}{o:Oper}(hk:ops[k]?=some o):gC ops.toArray k=o.dst:=by simp[gC,hk]
theorem wn{k:Nat}{o:Oper}{j:Nat}{want:Bool}{v:Va}(hk:ops[k]?=some o)(hg:o.guard=some (j,want))(hb:jC ops E j want=some false)(hd:gv n o.dst):Rdr P kl n B ops.toArray k E (.cnd false v) H:=by
 intro E' hE' a w Q K' hR hKK;rw[mZ hk]at hKK
 have hb':jC ops.toArray.toList E j want=some false:=by simpa using hb
 rw[<-DV (jo hk) hg hE']at hb';have hw:=sZ hR hg hb';unfold wpOp;simp only[jo hk];rw[if_neg (by rw[hw];simp)];obtain⟨Kk,G,hX,hS,hE,hdf,hn,hkp⟩:=hR;exact hKK _ _ (RelV.put (C:=cx P kl n B) (v:=.cnd false v) ⟨Kk,G,hX,hS,hE,hdf,hn,hkp,by simp[VR]⟩ o.dst (zZ hd))
theorem Dr.run:∀{l:Plan} {aw:Aw},mY P kl n B ops.toArray K (zkT P kl n ops l aw)->Dr P kl n B ops.toArray l aw.obs aw.E aw.H K
 |.nil,aw,h=>Dr.nil h.2
 |.fk _ _ _ _ _ _,aw,h=>h.2
 |.f3 _ _ _ _ _ _ _ _ _,aw,h=>h.2
 |.rd k l,aw,h=>by
  unfold zkT at h;split at h
  rotate_left
  .exact h.1.elim
  rename_i o hk
  split at h
  .exact h.2
  split at h
  .rename_i hg
   have hok:=(vx h).2;have h':=Dr.run h;simp only[oS]at h';rw[<-mZ hk]at h';refine Dr.read (fun _=>?_) (fun _=>?_) h'
   .rw[AB hg];exact nK (jo hk) hg hok.1 (hok.2 rfl)
   .intro po H' hre
    obtain⟨r1,r2,r3⟩:=hre;refine⟨?_,mK hk r3⟩;simp only;rw[AB hg,AB hg]at r2;rw[AB hg,<-r2];exact nK (jo hk) hg hok.1 (r1 rfl)
  .rename_i j want hg
   split at h
   rotate_left
   .exact h.1.elim
   rename_i g hb
   have hok:=(vx h).2;have h':=Dr.run h;simp only[oS]at h';rw[<-mZ hk]at h';refine Dr.read (fun _=>?_) (fun _=>?_) h'
   .rw[vz hg];exact Q1 (jo hk) hg hb hok.1 hok.2
   .intro po H' hre
    obtain⟨r1,r2,r3⟩:=hre;refine⟨?_,mK hk r3⟩;simp only;rw[vz hg,vz hg]at r2;rw[vz hg,<-r2];exact Q1 (jo hk) hg hb hok.1 r1
 |.ef k L l,aw,h=>by
  unfold zkT at h;split at h
  rotate_left
  .exact h.1.elim
  rename_i o hk
  split at h
  .exact h.2
  split at h
  .rename_i hg
   have hok:=(vx h).2;have h':=Dr.run h;simp only[xG]at h';rw[<-mZ hk]at h';exact Dr.eff (fun _=>xq (jo hk) hg hok.1 hok.2.1) hok.2.2 h'
  .rename_i j want hg
   split at h
   .rename_i hb
    have hok:=(vx h).2;have h':=Dr.run h;simp only[xF]at h';rw[<-mZ hk]at h';exact Dr.eff (fun _=>Bw (jo hk) hg hb hok.1 hok.2.1) hok.2.2 h'
   .rename_i hb
    have hok:=(vx h).2;have h':=Dr.run h;simp only[xE]at h';rw[<-mZ hk]at h';exact ce (Br.skip (fun _=>wn hk hg hb hok) h')
   .exact h.1.elim
theorem Br.run{k:Nat}{L:List Nat}{o:Oper}(hk:Is ops[k]? (some o))(hg:Is o.guard none)(h:mY P kl n B ops.toArray K (zkT P kl n ops l (xG n o L (jt E o.op) ⟨obs,E,H,True⟩ (eY P (dG kl) E H o.op)))):Br P kl n B ops.toArray k L l obs E H K:=by
 unfold Is at *;have hok:=(vx h).2;have h':=Dr.run h;simp only[xG]at h';rw[<-mZ hk]at h';exact Br.eff (fun _=>xq (jo hk) hg hok.1 hok.2.1) hok.2.2 h'
theorem cj{id:Nat}{os:List Oper}{y:Code}{Q:Qt}(plan:Plan)(hm:P.follows .mixedOrders=true)(hl:plan.length=os.length)(hp:jy os.toArray plan [] (Array.replicate os.length false)=true)
  (h:∀K:dz->List Ob->Prop,(∀E H,Wp P kl n B y Q E H->K E H)->mY P kl n B os.toArray K (zkT P kl n os plan ⟨[],E,H,True⟩)):Wp P kl n B (.seq (.region id os.toArray true) y) Q E H :=
 Wp.seq fun _ hK=>cK plan hm hl hp fun K' hK'=>Dr.run (h K' fun E' H' hy=>hK' E' H' (hK E' H' hy))
theorem o9{o:Oper}{c:Call}{fop:Operand}{f:FuncId}{caps args:List Va}{v:Va}(hs:Does P f args [] fun r X=>r=v/\X=[])(ho:o.op=.call c)(hc:c.callee=.value fop)
  (hok:opOk true E fop/\allOk true E c.args.toList) (hf:opnd E fop=.fn f caps) (hp:jO H (opnds E c.args.toList++caps)=some args) (hflat:v.flat=true) {a:Act} {w:World} {Q:Exit->Act->World->Prop} {K':Act->World->Prop} (hR:Rel (cx P kl n B) E H a w)
  (hK:∀c' w',RelV (cx P kl n B) E H c' v a w'->K' (a.put o.dst c') w'):o.wp P a w K' Q:=by
 obtain⟨Kk,G,hX,hS,hE,hdf,hn,hkp⟩:=hR;have hvf:=zz hE rfl fop hok.1;rw[hf]at hvf;simp only[VR]at hvf;obtain⟨cs,hcs,hcv⟩:=hvf;have hargs:=vt hE rfl c.args.toList hok.2;have hall:=At hS hp (hargs.append hcv);unfold Oper.wp;rw[DG ho hc hcs hs.1];simp only[Oper.upon];refine(hs.2 (y6 Kk G) [] w _ (St.nil (Ln hS) (hS.tb.mono ⟨fun _ h=>.inl h,fun _ _=>rfl⟩)) hall).mono ?_;rintro e w' ⟨c',r,X',K1,G1,rfl,⟨rfl,rfl⟩,hX1,hS1,hv,_⟩
 have fr:∀b,b<w.heap.size->w'.heap[b]?=w.heap[b]?:=fun b hb=>hX1.frame b hb (fun o g0 h=>by simp at h)
 have hX2:Ext (dG kl) B.K0 B.G0 B.w0 Kk G w':=by
  refine hX.trans { Ext.refl (dG kl) Kk G w with
   os:=hX1.os,tape:=hX1.tape,output:=hX1.output,size:=hX1.size,frame:=fun b hb _=>fr b hb }
 exact hK c' w' ⟨Kk,G,hX2,hS.after hX1,fun m=>VR.keep (f:=fun _=>true) ⟨fun _ h=>h,fun b hb=>fr b (hS.kb b hb)⟩ (Mg.refl _ G) _ _ (Va.all_true _) (hE m),hdf,hn,hkp,Hf hflat hv⟩
theorem nL{k:Nat}{o:Oper}{c:Call}{fop:Operand}{f:FuncId}{caps args:List Va}{g:Bool}{v:Va}(hs:g=true->Does P f args [] fun r X=>r=v/\X=[])(hk:ops[k]?=some o)(ho:o.op=.call c)(hc:c.callee=.value fop)
  (hg:match o.guard with|none=>g=true|some (j,want)=>jC ops E j want=some g) (hd:gv n o.dst) (hok:opOk g E fop/\allOk g E c.args.toList) (hf:opnd E fop=.fn f caps) (hp:jO H (opnds E c.args.toList++caps)=some args) (hflat:v.flat=true) :
  Rdr P kl n B ops.toArray k E (iz o.guard g v) H:=by
 intro E' hE' a w Q K' hR hK;have hop:=Cb (jo hk) hE';rw[ho]at hop;have hfo:ed E fop=ed E' fop:=hop fop (by simp[Op.operands,Call.operands,hc])
 have ha:Agree c.args.toList E E':=fun x hx=>hop x (by simp only[Op.operands,Call.operands,Array.toList_append,mem_append];exact .inr hx)
 rw[Agree.opOk hfo,Agree.allOk ha]at hok;rw[Agree.opnd hfo]at hf;rw[Agree.opnds ha]at hp;rw[mZ hk]at hK;unfold wpOp;simp only[jo hk]
 cases hgd:o.guard with
 |none =>
  rw[hgd]at hg hK;subst hg;rw[if_pos (by simp[Region.wanted,hgd])];exact .inl (o9 (hs rfl) ho hc hok hf hp hflat hR fun c' w' hRV=>hK _ _ (hRV.put o.dst (zZ hd)))
 |some gw =>
  obtain⟨j,want⟩:=gw;rw[hgd]at hg hK;simp only at hg
  have hb:jC ops.toArray.toList E j want=some g:=by simpa using hg
  rw[<-DV (jo hk) hgd hE']at hb;have hw:=sZ hR hgd hb
  cases g with
  |true =>
   rw[if_pos hw]
   exact .inl (o9 (hs rfl) ho hc hok hf hp hflat hR fun c' w' hRV=>hK _ _ (RelV.put (v:=.cnd true v) (by
    obtain⟨Kk,G,h1,h2,h3,h4,h5,h6,h7⟩:=hRV
    exact⟨Kk,G,h1,h2,h3,h4,h5,h6,by simp only[VR];exact⟨fun _=>h7,fun e=>Bool.noConfusion e⟩⟩) o.dst (zZ hd)))
  |false =>
   rw[if_neg (by rw[hw];simp)];obtain⟨Kk,G,hX,hS,hE,hdf,hn,hkp⟩:=hR;exact hK _ _ (RelV.put (C:=cx P kl n B) (v:=.cnd false v) ⟨Kk,G,hX,hS,hE,hdf,hn,hkp,by simp[VR]⟩ o.dst (zZ hd))
def iE(E:dz)(o:Oper):Option (FuncId×List Va):=match o.op with
 |.call c=>match c.callee with
  |.value fop=>match opnd E fop with
   |.fn f caps=>some (f,opnds E c.args.toList++caps)
   |_=>none
  |_=>none
 |_=>none
def iR(ops:List Oper)(E:dz)(o:Oper):Option Bool:=match o.guard with
 |none=>some true
 |some (j,want)=>jC ops E j want
theorem Dr.callF{k:Nat}{f:FuncId}{av args:List Va}{g:Bool}{o:Oper}{v:Va}(hs:g=true->Does P f args [] fun r X=>r=v/\X=[])(hk:Is ops[k]? (some o))(ha:Is (iE E o) (some (f,av)))(hg:Is (iR ops E o) (some g))(hp:Is (jO H av) (some args))(hok:iP n g E o)(hf:Is v.flat true)
  (cont:mY P kl n B ops.toArray K (zkT P kl n ops l ⟨⟨k,E,iz o.guard g v,qE ops o E (iz o.guard g v) av args⟩::obs,dV E o.dst (iz o.guard g v),H,True⟩)):Dr P kl n B ops.toArray (.rd k l) obs E H K:=by
 unfold Is at *;unfold iE at ha;split at ha
 rotate_left
 .cases ha
 rename_i c h1
 split at ha
 rotate_left
 .cases ha
 rename_i fop h3
 split at ha
 rotate_left
 .cases ha
 rename_i f' caps h4
 cases ha;obtain⟨hd,hk1,hk2⟩:=u1 hok h1 h3
 have hg':match o.guard with|none=>g=true|some (j,want)=>jC ops E j want=some g:=by
  unfold iR at hg
  revert hg
  cases o.guard with
  |none=>exact fun hg=>(Option.some.inj hg).symm
  |some gw=>exact fun hg=>hg
 have h':=Dr.run cont;simp only at h';rw[<-mZ hk]at h';refine Dr.read (fun _=>nL hs hk h1 h3 hg' hd ⟨hk1,hk2⟩ h4 hp hf) (fun _=>?_) h';intro po H' hre;exact⟨nL hs hk h1 h3 hg' hd ⟨hk1,hk2⟩ h4 hre.1 hf,mK hk hre.2⟩
end
attribute [go_sem] pl zkT mY oS xG xF xE iz x9 vu wm qE Kz FO rZ pE jt iE iR jy Op.operands
def JM(m:Nat)(Post:Va->List Ob->Prop)(r:Va)(X:List Ob):Prop :=
 gn r r/\yZ X X/\X.length=m/\r.all (fun o=>decide (o<m))=true/\iv (fun o=>decide (o<m)) X=true/\Post r X
def retF(m:Nat)(kl:List Bool)(Post:Va->List Ob->Prop)(H:List Ob)(pv:Pv):Prop :=
 pv.ok/\kl.length<=m/\m<=H.length/\JM m Post (gJ m H pv.v) (gl m H (H.take m))
theorem rI{P:Program}{rs:List ResultVar}{m:Nat}{kl:List Bool}{Post:Va->List Ob->Prop}{E:dz}{H:List Ob}(h:retF m kl Post H (gI P E H rs)):ib P rs m kl Post E H:=by
 obtain⟨h1,h2,h3,h4,h5,h6,h7,h8,h9⟩:=h;exact⟨h1,h2,h3,h7,h8,_,_,h4,h5,h6,h7,h8,h9⟩
section
variable {P:Program} {kl:List Bool} {n:Nat} {B:Bs} {rs:List ResultVar} {m:Nat} {Post:Va->List Ob->Prop} {E:dz} {H:List Ob}
theorem Lk(h:Vc.retF m kl Post H (gI P E H rs)):qA P rs m kl Post .ret E H:=rI h
theorem vB(h:Vc.retF m kl Post H (gI P E H rs)):qA P rs m kl Post .normal E H:=rI h
end
section
variable {P:Program} {kl:List Bool} {n:Nat} {B:Bs} {K:dz->List Ob->Prop} {E:dz} {H:List Ob} {ops:Array Oper}
theorem cG{o:Oper}{l:List Oper}{f:FuncId}{av args:List Va}{g:Bool}{v:Va}(hs:g=true->Does P f args [] fun r X=>r=v/\X=[])(ha:Is (iE E o) (some (f,av)))(hb:Is (iR ops.toList E o) (some g))(hp:Is (jO H av) (some args))(hok:iP n g E o)(hf:Is v.flat true)
  (cont:(g=true->v.ok)->eU P kl n B ops K (eM P kl n ops.toList l ⟨dV E o.dst (iz o.guard g v),H,True⟩)):Rg P kl n B ops (o::l) E H K:=by
 unfold Is iE at ha;unfold Is iR at hb;split at ha
 rotate_left
 .cases ha
 rename_i c h1
 split at ha
 rotate_left
 .cases ha
 rename_i fop h3
 split at ha
 rotate_left
 .cases ha
 rename_i f' caps h4
 cases ha;obtain⟨hd,hk⟩:=u1 hok h1 h3
 cases hg:o.guard with
 |none =>
  rw[hg]at hb;obtain rfl:true=g:=Option.some.inj hb;have hs:=hs rfl
  refine dv hs h1 hg h3 hd hk h4 hp fun r X' ⟨hr,_⟩ hv=>⟨hr ▸ hf,?_⟩
  have c1:=cont fun _=>hr ▸ hv
  rw[AB hg]at c1;exact hr ▸ Rg.run c1
 |some gw =>
  obtain⟨j,want⟩:=gw;rw[hg]at hb
  refine Rg.callG v hs h1 hg hb h3 hd hk h4 hp hf fun hv=>?_
  have c1:=cont hv;rw[vz hg]at c1;exact Rg.run c1
end
section
variable {P:Program} {kl:List Bool} {n:Nat} {B:Bs} {ops:List Oper} {K:dz->List Ob->Prop} {l:Plan} {obs:List En} {E:dz} {H:List Ob}
end
theorem qg{n:Int}(h1:-9223372036854775808<=n)(h2:n<=9223372036854775807):IntKind.i64.wrap n=n:=by
 simp only[IntKind.wrap,IntKind.bits,IntKind.signed];simp;omega
theorem Ji{n:Int}(h1:0<=n)(h2:n<=255):IntKind.u8.wrap n=n:=by
 simp only[IntKind.wrap,IntKind.bits,IntKind.signed];simp;omega
attribute [go_sem] JM retF Nat.le_refl Fits lo hi replicate_succ replicate_zero length_set contains_nil contains_cons Bool.or_false Bool.false_or dJ
attribute [-go_sem] ib
inductive Sh where
 |b
 |i (k:IntKind)
 |s
 |l (e:List Sh)
def v8(P:Program)(r:TypeId->Option (List Sh)):Nat->List Field->Option (List Sh)
 |_,[]=>some []
 |off,f::fs=>match r f.type with
  |some x=>if f.offset=off/\P.cellsOf f.type=x.length then match v8 P r (off+x.length) fs with
   |some y=>some (x++y)
   |none=>none
   else none
  |none=>none
def yX(P:Program):Nat->TypeId->Option (List Sh)
 |0,_=>none
 |m+1,t=>match P.underlying t with
  |some .bool=>some [.b]
  |some (.int k)=>some [.i k]
  |some .string=>some [.s]
  |some (.slice e)=>match yX P m e with
   |some x=>if P.cellsOf e=x.length/\0<x.length then some [.l x]else none
   |none=>none
  |some (.struct fs)=>match v8 P (yX P m) 0 fs.toList with
   |some x=>if P.cellsOf t=x.length then some x else none
   |none=>none
  |_=>none
mutual
def ej:Dt->Sh->Prop
 |.b _,.b=>True
 |.i k _,.i k'=>k=k'
 |.s _,.s=>True
 |.l rows,.l e=>y9 rows e
 |_,_=>False
def eA:List Dt->List Sh->Prop
 |[],[]=>True
 |d::ds,e::es=>ej d e/\eA ds es
 |_,_=>False
def y9:List (List Dt)->List Sh->Prop
 |[],_=>True
 |r::rs,e=>eA r e/\y9 rs e
end
mutual
def lq:Dt->Nat
 |.b _=>1
 |.i _ _=>1
 |.s x=>x.length+1
 |.l rows=>jA rows+1
 |.a ds=>fq ds+1
def fq:List Dt->Nat
 |[]=>0
 |d::ds=>lq d+fq ds
def jA:List (List Dt)->Nat
 |[]=>0
 |r::rs=>fq r+jA rs
end
mutual
def fS{H:Type}:DataW H->Nat
 |.lit (.string bytes)=>bytes.length+1
 |.lit _=>1
 |.nil=>1
 |.ptr d=>fS d+1
 |.slice elems spare=>gO elems+gO spare+1
 |.agg parts=>gO parts+1
 |.iface _ d=>fS d+1
 |.map entries=>ji entries+1
 |.held _=>1
def gO{H:Type}:List (DataW H)->Nat
 |[]=>0
 |d::r=>fS d+gO r
def ji{H:Type}:List (Lit×DataW H)->Nat
 |[]=>0
 |x::r=>xU x+ji r
def xU{H:Type}:Lit×DataW H->Nat
 |(.string bytes,d)=>bytes.length+fS d+1
 |(_,d)=>fS d+1
end
theorem QM:∀{a b:List Dt} {x y:List Sh},eA a x->eA b y->eA (a++b) (x++y)
 |[],_,[],_,_,h=>h
 |d::ds,_,e::es,_,h,h'=>by simp only[cons_append,eA]at *;exact⟨h.1,QM h.2 h'⟩
 |[],_,_::_,_,h,_=>by simp[eA]at h
 |_::_,_,[],_,h,_=>by simp[eA]at h
theorem Gx:∀{a:List Dt} {x:List Sh},eA a x->a.length=x.length
 |[],[],_=>rfl
 |d::ds,e::es,h=>by simp only[eA]at h;simp[Gx h.2]
 |[],_::_,h=>by simp[eA]at h
 |_::_,[],h=>by simp[eA]at h
theorem Q6:∀a b:List Dt,fq (a++b)=fq a+fq b
 |[],b=>by simp[fq]
 |d::a,b=>by simp only[cons_append,fq,Q6 a b];omega
theorem Ri{H:Type}:∀l:List (DataW H),l.length<=gO l
 |[]=>by simp[gO]
 |d::l=>by
  have h1:=Ri l
  have h2:1<=fS d:=by
   cases d with
   |lit l=>cases l <;> simp[fS]
   |_=>simp[fS]
  simp only[length_cons,gO];omega
theorem AJ{k:IntKind}{n:Int}(h:(Lit.int k n).wf=true):Fits k n:=by
 simp only[Lit.wf,Bool.and_eq_true,decide_eq_true_eq]at h
 cases k <;> simpa [Fits,lo,hi,IntKind.min,IntKind.max,IntKind.signed,IntKind.bits]using h
section
variable {H:Type} {enc:TypeId×Value->H} {P:Program} {w:World}
abbrev y3(w:World):Nat->Prop:=fun b=>b<w.heap.size
def PT(w:World)(cs:List Value)(d:DataW H)(shs:List Sh):Prop:=∃row,DRs (y3 w) w.heap cs row/\eA row shs/\fq row<=fS d
theorem o8{a:Addr}{n:Nat}{cs:List Value}(hn:0<n)(h:w.cells? 0 a n=some cs):cs.length=n/\a.block<w.heap.size/\a.spot=none/\∃cur T fr,w.heap[a.block]?=some (.cells cur T fr)/\∀j v,cs[j]?=some v->cur[a.off+j]?=some v:=by
 obtain⟨_,h2,h3⟩:=World.cells?_some h;have h0:=h3 0 hn
 have hlt:0<cs.length:=by omega
 rw[getElem?_eq_getElem hlt]at h0;unfold World.cell? at h0;have ha:a.add 0=a:=rfl;rw[ha]at h0;split at h0
 rotate_left
 .cases h0
 rename_i cur T fr hb
 split at h0
 .cases h0
 rename_i hs
 have hs:a.spot=none:=by simpa using hs
 refine⟨h2,(Array.getElem?_eq_some_iff.1 hb).1,hs,cur,T,fr,hb,fun j v hj=>?_⟩;have hjl:=(List.getElem?_eq_some_iff.1 hj).1;have hj':=h3 j (by omega);obtain⟨b,o,s⟩:=a;simp only at hs hb|-;subst hs;rw[m0]at hj';unfold World.cell? at hj';simp only[hb]at hj';rw[<-hj,<-hj'];rfl
theorem kW{r:TypeId->Option (List Sh)}{n:Nat}{cs:List Value}
  (ih:∀t cs x shs,DataW.trod enc P w 0 (fun _=>true) true n t cs=some x->r t=some shs->fS x.1<=dJ->PT w cs x.1 shs) :
  ∀(fs:List Field) (off:Nat) (shs:List Sh) (xs:List (DataW H×List MemPlace)),v8 P r off fs=some shs->xs.length=fs.length ->
   (∀(i:Nat) (f:Field),fs[i]?=some f->DataW.trod enc P w 0 (fun _=>true) true n f.type ((cs.drop f.offset).take (P.cellsOf f.type))=xs[i]?)->gO (xs.map (·.1))<=dJ ->
   ∃row,DRs (y3 w) w.heap ((cs.drop off).take shs.length) row/\eA row shs/\fq row<=gO (xs.map (·.1))
 |[],off,shs,xs,h,hl,_,_=>by
  simp only[v8]at h;cases h;exact⟨[],by simp[DRs],by simp[eA],by simp[fq]⟩
 |f::fs,off,shs,[],_,hl,_,_=>by simp at hl
 |f::fs,off,shs,y::xs,h,hl,hx,hb=>by
  simp only[v8]at h;split at h
  rotate_left
  .cases h
  rename_i x hr
  split at h
  rotate_left
  .cases h
  rename_i hof
  split at h
  rotate_left
  .cases h
  rename_i z hz
  cases h;simp only[map_cons,gO]at hb|-;have h0:=hx 0 f rfl;simp only[getElem?_cons_zero]at h0;obtain⟨row,h1,h2,h3⟩:=ih _ _ _ _ h0 hr (by omega);obtain⟨row',h1',h2',h3'⟩:=kW ih fs (off+x.length) z xs hz (by simpa using hl) (fun i g hg=>by simpa using hx (i+1) g (by simpa using hg)) (by omega);rw[hof.1,hof.2]at h1;refine⟨row++row',?_,QM h2 h2',by rw[Q6];omega⟩;rw[length_append,take_add,drop_drop];exact h1.append h1'
theorem oK{n c:Nat}{e:TypeId}{shs:List Sh}{b off:Nat}{cur:Array Value}{T:TypeId}{fr:Nat×Nat}(hb:w.heap[b]?=some (.cells cur T fr))(hc:0<c)(hsh:shs.length=c)
  (ih:∀cs x,DataW.trod enc P w 0 (fun _=>true) true n e cs=some x->fS x.1<=dJ->PT w cs x.1 shs) :
  ∀(els:List (DataW H×List MemPlace)) (i0:Nat),(∀i,i<els.length->(w.cells? 0 ((⟨b,off,none⟩:Addr).add ((i0+i)*c)) c).bind (DataW.trod enc P w 0 (fun _=>true) true n e)=els[i]?)->gO (els.map (·.1))<=dJ ->
   ∃vs rows,rows.length=els.length/\DRss (y3 w) w.heap c vs rows/\(∀j v,vs[j]?=some v->cur[off+i0*c+j]?=some v)/\y9 rows shs/\jA rows<=gO (els.map (·.1))
 |[],_,_,_=>⟨[],[],rfl,by simp[DRss],by simp,by simp[y9],by simp[jA]⟩
 |y::els,i0,hx,hbk=>by
  simp only[map_cons,gO]at hbk|-;have h0:=hx 0 (by simp);simp only[Nat.add_zero,getElem?_cons_zero,Option.bind_eq_some_iff]at h0;obtain⟨cs,hcs,hy⟩:=h0;rw[m0]at hcs;obtain⟨hl,_,_,cur',T',fr',hb',hcell⟩:=o8 hc hcs;simp only at hb' hcell;rw[hb]at hb';cases hb';obtain⟨row,h1,h2,h3⟩:=ih _ _ hy (by omega)
  obtain⟨vs,rows,r1,r2,r3,r4,r5⟩:=oK hb hc hsh ih els (i0+1) (fun i hi=>by
   have:=hx (i+1) (by simpa using hi);rw[show i0+(i+1)=i0+1+i by omega]at this
   simpa using this) (by omega)
  refine⟨cs++vs,row::rows,by simp[r1],?_,fun j v hj=>?_,by simp only[y9];exact⟨h2,r4⟩,by simp only[jA];omega⟩
  .simp only[DRss]
   exact⟨cs,vs,rfl,by rw[Gx h2,hsh],h1,r2⟩
  .rw[getElem?_append]at hj
   split at hj
   .exact hcell j v hj
   .have:=r3 _ v hj
    rw[Nat.add_mul]at this;rw[show off+i0*c+j=off+(i0*c+1*c)+(j-cs.length)by omega];exact this
theorem lR:∀(m n:Nat) (t:TypeId) (cs:List Value) (x:DataW H×List MemPlace) (shs:List Sh),DataW.trod enc P w 0 (fun _=>true) true n t cs=some x->yX P m t=some shs->fS x.1<=dJ->PT w cs x.1 shs
 |0,_,_,_,_,_,_,h,_=>by simp[yX]at h
 |m+1,n,t,cs,x,shs,hx,h,hb=>by
  simp only[yX]at h;split at h
  .rename_i hu
   cases h
   obtain⟨n',rfl⟩:∃n',n=n'+1:=by cases n with|zero=>simp[DataW.trod]at hx|succ n'=>exact⟨n',rfl⟩
   unfold DataW.trod at hx;rw[hu]at hx
   split at hx <;> simp_all
   rename_i b
   exact⟨[.b b],by simp[DRs,DR],by simp[eA,ej],by rw[<-hx];simp[fq,lq,fS]⟩
  .rename_i k hu
   cases h;obtain⟨n',rfl,h1,h2⟩:=DataW.trod_int hu hx;subst h1;exact⟨[.i k n'],by simp only[DRs,DR];exact⟨_,_,rfl,⟨rfl,AJ h2⟩,rfl⟩,by simp[eA,ej],by simp[fq,lq,fS]⟩
  .rename_i hu
   cases h;obtain⟨s,rfl,h1,h2⟩:=DataW.trod_string hu hx;subst h1;simp only[fS]at hb;exact⟨[.s s.data.toList],by simp only[DRs,DR];exact⟨_,_,rfl,⟨rfl,by omega⟩,rfl⟩,by simp[eA,ej],by simp[fq,lq,fS]⟩
  .rename_i e hu
   split at h
   rotate_left
   .cases h
   rename_i y hy
   split at h
   rotate_left
   .cases h
   rename_i hc
   cases h
   rcases DataW.trod_slice hu hx with⟨rfl,rfl⟩|⟨a,len,cap,elems,rest,n',rfl,rfl,rfl,_,hl,_,hel,hget,hsp,_⟩
   .exact⟨[.l []],by simp only[DRs,DR];exact⟨_,_,rfl,.inl ⟨⟨none,rfl⟩,trivial⟩,rfl⟩,by simp[eA,ej,y9],by simp[fq,lq,jA,fS]⟩
   .obtain⟨hrl,hrest⟩:=hsp rfl
    simp only[fS]at hb
    rcases Nat.eq_zero_or_pos cap with rfl|hcp
    .have:len=0:=by omega
     subst this;exact⟨[.l []],by simp only[DRs,DR];exact⟨_,_,rfl,.inl ⟨⟨some a,rfl⟩,trivial⟩,rfl⟩,by simp[eA,ej,y9],by simp[fq,lq,jA,fS]⟩
    .have hc0:0<P.cellsOf e:=by rw[hc.1];exact hc.2
     have first:∃cs0,w.cells? 0 a (P.cellsOf e)=some cs0:=by
      rcases Nat.eq_zero_or_pos len with h0|h0
      .have h1:=hrest 0 (by omega)
       have h2:rest[0]?≠none:=by simp;intro e;subst e;simp at hrl;omega
       cases h3:rest[0]? with
       |none=>exact absurd h3 h2
       |some r0 =>
        rw[h3,h0,Option.bind_eq_some_iff]at h1;obtain⟨cs0,h4,_⟩:=h1;exact⟨cs0,by simpa [Addr.add]using h4⟩
      .have h1:=hget 0 h0
       have h2:elems[0]?≠none:=by simp;intro e;subst e;simp at hel;omega
       cases h3:elems[0]? with
       |none=>exact absurd h3 h2
       |some r0 =>
        rw[h3,Option.bind_eq_some_iff]at h1;obtain⟨cs0,h4,_⟩:=h1;exact⟨cs0,by simpa [Addr.add]using h4⟩
     obtain⟨cs0,hcs0⟩:=first
     obtain⟨_,hblk,hspot,cur,T,fr,hcur,_⟩:=o8 hc0 hcs0;obtain⟨b,off,s⟩:=a;simp only at hblk hspot hcur;subst hspot
     obtain⟨vs,rows,r1,r2,r3,r4,r5⟩:=oK (off:=off) hcur hc0 hc.1.symm (fun cs x h1 h2=>lR m n' e cs x y h1 hy h2) elems 0 (fun i hi=>by
      rw[Nat.zero_add];exact hget i (by omega)) (by omega)
     have hlen:=Ri (elems.map (·.1));rw[length_map]at hlen;refine⟨[.l rows],?_,by simp only[eA,ej];exact⟨r4,trivial⟩,by simp only[fq,lq,fS];omega⟩;simp only[DRs];refine⟨_,_,rfl,?_,rfl⟩;simp only[DR];refine .inr ⟨b,off,cap,cur,T,fr,P.cellsOf e,vs,by rw[r1,hel],hblk,hcur,by omega,by omega,fun j v hj=>by simpa using r3 j v hj,r2⟩
  .rename_i fs hu
   split at h
   rotate_left
   .cases h
   rename_i y hy
   split at h
   rotate_left
   .cases h
   rename_i hc
   cases h;obtain⟨xs,n',rfl,rfl,hcl,hxl,hf⟩:=DataW.trod_struct hu hx;simp only[fS]at hb;obtain⟨row,h1,h2,h3⟩:=kW (n:=n') (cs:=cs) (fun t cs x shs a b c=>lR m n' t cs x shs a b c) fs.toList 0 _ xs hy (by simpa using hxl) (fun i f hi=>hf i f (by simpa using hi)) (by omega);rw[drop_zero,<-hc,<-hcl,take_length]at h1;exact⟨row,h1,h2,by simp only[fS];omega⟩
  .cases h
def yb(ag:Bool)(row:List Dt):Va:=bif ag then .agg (row.map .p)else match row with
 |[d]=>.p d
 |_=>.top
def ld:List Bool->List (List Dt)->List Va
 |ag::as,r::rs=>yb ag r::ld as rs
 |_,_=>[]
def C6:List (List Dt)->List (List Sh)->Prop
 |[],[]=>True
 |r::rs,s::ss=>eA r s/\C6 rs ss
 |_,_=>False
theorem FA{G:List Gh}{m:Nat}{t:TypeId}{v:Value}{base:Nat}{d:DataW H}{ps:List MemPlace}{shs:List Sh}(hval:Value.okWide P w .any base t v)(h:DataW.Trod enc P w 0 (fun _=>true) true t v d ps)(hs:yX P m t=some shs)(hb:fS d<=dJ) :
  ∃row,VR (y3 w) w.heap G v (yb (eG P t) row)/\eA row shs/\fq row<=fS d:=by
 obtain⟨n,hn⟩:=h;obtain⟨row,h1,h2,h3⟩:=lR m n t _ _ _ hn hs hb;refine⟨row,?_,h2,h3⟩
 cases m with
 |zero=>simp[yX]at hs
 |succ m =>
  simp only[yX]at hs;unfold Value.okWide at hval
  have scalar:∀d,P.underlying t=some d->eG P t=false->v.cells.toList=[v]->row.length=1->VR (y3 w) w.heap G v (yb (eG P t) row):=by
   intro _ _ ha hc hl;rw[ha]
   match row,hl with
   |[d],_ =>
    rw[hc]at h1;simp only[DRs]at h1;obtain⟨_,_,h,h4,_⟩:=h1;cases h
    simpa only[yb,cond_false,VR]using h4
  split at hs
  .rename_i hu
   cases hs;refine scalar _ hu (by simp[eG,hu]) ?_ (by rw[Gx h2];rfl);rw[hu]at hval;simp only[Cell.okWide,hu,Cell.ok]at hval
   cases v <;> first|rfl|exact hval.elim
  .rename_i k hu
   cases hs;refine scalar _ hu (by simp[eG,hu]) ?_ (by rw[Gx h2];rfl);rw[hu]at hval;simp only[Cell.okWide,hu,Cell.ok]at hval
   cases v <;> first|rfl|exact hval.elim
  .rename_i hu
   cases hs;refine scalar _ hu (by simp[eG,hu]) ?_ (by rw[Gx h2];rfl);rw[hu]at hval;simp only[Cell.okWide,hu,Cell.ok]at hval
   cases v <;> first|rfl|exact hval.elim
  .rename_i e hu
   split at hs
   rotate_left
   .cases hs
   split at hs
   rotate_left
   .cases hs
   cases hs;refine scalar _ hu (by simp[eG,hu]) ?_ (by rw[Gx h2];rfl);rw[hu]at hval;simp only[Cell.okWide,hu,Cell.ok]at hval
   cases v <;> first|rfl|exact hval.elim
  .rename_i fs hu
   rw[hu]at hval;obtain⟨cs,rfl,_⟩:=hval
   have ha:eG P t=true:=by simp[eG,hu]
   rw[ha];simp only[yb,cond_true,VR];exact⟨cs.toList,by simp,h1.vrs⟩
  .cases hs
theorem sN{G:List Gh}{m base:Nat}:∀{ts:List TypeId} {vs:List Value} {ds:List (DataW H)} {ps:List MemPlace} {shss:List (List Sh)},(∀(j:Nat) t v,ts[j]?=some t->vs[j]?=some v->Value.okWide P w .any base t v) ->
  DataW.TrodAll enc P w 0 (fun _=>true) true ts vs ds ps->ts.map (yX P m)=shss.map some->gO ds<=dJ->∃rows,VRs (y3 w) w.heap G vs (ld (ts.map (eG P)) rows)/\C6 rows shss/\jA rows<=gO ds
 |[],vs,ds,ps,shss,_,h,hs,_=>by
  match vs,ds,h with
  |[],[],_ =>
   have:shss=[]:=by cases shss <;> simp_all
   subst this;exact⟨[],by simp[ld,VRs],by simp[C6],by simp[jA]⟩
 |t::ts,vs,ds,ps,shss,hv,h,hs,hb=>by
  match vs,ds,h with
  |v::vs,d::ds,h =>
   obtain⟨p,q,h0,h1,_⟩:=h
   match shss,hs with
   |[],hs=>simp at hs
   |s::ss,hs =>
    simp only[map_cons,List.cons.injEq]at hs;simp only[gO]at hb;obtain⟨row,r1,r2,r3⟩:=FA (G:=G) (hv 0 t v rfl rfl) h0 hs.1 (by omega);obtain⟨rows,q1,q2,q3⟩:=sN (G:=G) (fun j t v a b=>hv (j+1) t v (by simpa using a) (by simpa using b)) h1 hs.2 (by omega);refine⟨row::rows,?_,by simp only[C6];exact⟨r2,q2⟩,by simp only[jA,gO];omega⟩;simp only[map_cons,ld,VRs];exact⟨v,vs,rfl,r1,q1⟩
theorem SJ{f:Func}{s:ChangeSpec}{apart fresh handsOn again:Bool}{W W':World}{args:Array Value}{v:Value}{ds gs:List (DataW H)}{before pa pv:List MemPlace}
  (hW:DataW.Whole enc P f.params.toList s.vars apart W args.toList ds gs before)
  (hres:∀(b:Nat) (sp:Nat->Bool) (hd:Bool),DataW.TrodAll enc P W' b sp hd f.resultTypes.toList (v.resultList f.resultTypes.size) (s.fn H (ds++gs)).results [])
  (hargs:∀sp:Nat->Bool,(∀p∈before,sp p.block=true)->DataW.TrodAll enc P W' 0 sp true f.params.toList args.toList (s.fn H (ds++gs)).args pa)
  (hvars:∀sp:Nat->Bool,(∀p∈before,sp p.block=true)->DataW.TrodVars enc P W' sp s.vars (s.fn H (ds++gs)).vars pv)
  (hps:before=pa++pv) (hb:RowKit.Below W.heap.size W W')
  (hok:∀(j:Nat) (t:TypeId) (r:Value),f.resultTypes[j]?=some t->(v.resultList f.resultTypes.size)[j]?=some r->Value.okWide P W' .any 0 t r) :
  s.post enc P f apart fresh handsOn again W args v W':=by
 have hlt:∀p∈before,p.block<W.heap.size:=fun p hp=>hW.lt p hp
 have hold:∀p∈before,(fun b=>decide (b<W.heap.size)) p.block=true:=fun p hp=>by simpa using hlt p hp
 refine⟨ds,gs,before,[],pa,pv,hW,hres _ _ _,hargs _ hold,hvars _ hold,World.keptBut_mono (fun p hp=>⟨hp,?_⟩) (hb.frame (·∈before)),fun _=>?_⟩
 .rw[hps,mem_append]at hp
  exact Or.inr hp
 .obtain⟨_,_,_,_,_,hz,hn⟩:=hW
  refine⟨hok,_,_,([]++pa)++pv,⟨[]++pa,pv,ChangeShapes.trodAll_append (hargs _ (fun _ _=>rfl)) (hres _ _ _),hvars _ (fun _ _=>rfl),rfl,?_,?_⟩,?_⟩
  .intro b off hp
   have hin:MemPlace.cell b off∈before:=by rw[hps];simpa using hp
   rw[hb.frozen (hlt _ hin)];exact hz b off hin
  .intro ha
   have:=hn ha;rw[hps]at this
   simpa using this
  .intro p hp _
   rw[hps]
   simpa using hp
theorem lf(hl:laidOutB P=true){W W':World}{sp:Nat->Bool}:∀{ts:List TypeId} {vs:List Value} {ds:List (DataW H)} {ps:List MemPlace},ts.all (fun t=>P.readableRec t&&decide (t<P.types.size))=true ->
  DataW.TrodAll enc P W 0 (fun _=>true) true ts vs ds ps->(∀p∈ps,W.sameAt W' p)->(∀p∈ps,sp p.block=true)->DataW.TrodAll enc P W' 0 sp true ts vs ds ps
 |[],vs,ds,ps,_,h,_,_=>by
  match vs,ds,h with
  |[],[],h=>exact h
 |t::ts,vs,ds,ps,ha,h,hs,hp=>by
  match vs,ds,h with
  |v::vs,d::ds,h =>
   obtain⟨p,q,h0,h1,rfl⟩:=h;simp only[all_cons,Bool.and_eq_true,decide_eq_true_eq]at ha
   exact⟨p,q,WideElems.Trod_stays hl ha.1.1 ha.1.2 h0 (fun x hx=>hs x (by simp[hx])) (fun x hx=>hp x (by simp[hx])),
    lf hl ha.2 h1 (fun x hx=>hs x (by simp[hx])) (fun x hx=>hp x (by simp[hx])),rfl⟩
theorem RE{sp:Nat->Bool}{hd:Bool}{base:Nat}:∀{ts:List TypeId} {vs:List Value} {ds:List (DataW H)} {ps:List MemPlace},DataW.TrodAll enc P w base sp hd ts vs ds ps->ds.length=ts.length
 |[],[],[],_,_=>rfl
 |t::ts,v::vs,d::ds,ps,⟨_,_,_,h,_⟩=>by simp[RE h]
 |[],_::_,_,_,h|[],[],_::_,_,h|_::_,[],_,_,h|_::_,_::_,[],_,h=>h.elim
theorem Rh:∀a b:List (DataW H),gO (a++b)=gO a+gO b
 |[],b=>by simp[gO]
 |d::a,b=>by simp only[cons_append,gO,Rh a b];omega
theorem yP{α:Type}{f:α->List Dt}{e:List Sh}(h:∀r,eA r e->∃a,r=f a):∀{rows:List (List Dt)},y9 rows e->∃l:List α,rows=l.map f
 |[],_=>⟨[],rfl⟩
 |r::rs,hr=>by
  simp only[y9]at hr;obtain⟨a,rfl⟩:=h r hr.1;obtain⟨l,rfl⟩:=yP h hr.2;exact⟨a::l,rfl⟩
theorem tR{f:FuncId}{fn:Func}{s:ChangeSpec}(hv:s.vars=[]){tb:TypeId}(hres:fn.resultTypes=#[tb])(htb:P.underlying tb=some .bool)
  (hl:laidOutB P=true) (hts:fn.params.toList.all (fun t=>P.readableRec t&&decide (t<P.types.size))=true) {m:Nat} {shss:List (List Sh)} (hsh:fn.params.toList.map (yX P m)=shss.map some)
  {W:World} {base:Nat} {args:Array Value} {ds gs:List (DataW H)} {before:List MemPlace}
  (tX:TabOk (y3 W) W.heap) (hspec:∀ds:List (DataW H),ds.length=fn.params.toList.length->s.fn H ds={ results:=[.lit (.bool true)],args:=ds })
  (hdoes:∀rows:List (List Dt),C6 rows shss->jA rows<=gO ds->Does P f (ld (fn.params.toList.map (eG P)) rows) [] fun r X=>r=.p (.b true)/\X=[])
  (hval:∀(j:Nat) t v,fn.params[j]?=some t->args[j]?=some v->Value.okWide P W .any base t v)
  (hW:DataW.Whole enc P fn.params.toList s.vars false W args.toList ds gs before) (hk:gO ds<=dJ) :
  Calls P f args W fun e W'=>∃v,e=.returned v/\s.post enc P fn false true false false W args v W':=by
 have hW':=hW;obtain⟨p,q,hA,hV,rfl,hfz,_⟩:=hW;rw[hv]at hV
 have hgs:gs=[]/\q=[]:=by
  match gs,hV with
  |[],h=>exact⟨rfl,h⟩
 obtain⟨rfl,rfl⟩:=hgs;obtain⟨rows,h1,h2,h3⟩:=sN (G:=[]) (m:=m) (shss:=shss) (fun j t v a b=>hval j t v (by simpa using a) (by simpa using b)) hA hsh hk;have hS:St (y3 W) [] [] W:=⟨rfl,fun _ h=>h,by simp,by simp,by simp,tX⟩;have hc:=(hdoes rows h2 h3).2 _ _ _ _ hS h1;rw[show args.toList.toArray=args by simp]at hc;refine hc.mono ?_;rintro e W' ⟨c,r,X',K',G',rfl,⟨rfl,rfl⟩,hX,hS',hvr,_⟩;simp only[VR,DR]at hvr;subst hvr;refine⟨_,rfl,?_⟩;have hb:RowKit.Below W.heap.size W W':=⟨hX.os,hX.tape,hX.output,hX.size,fun b hb=>hX.frame b hb (fun o g0 h=>by simp at h)⟩
 have hlt:∀x∈p,x.block<W.heap.size:=fun x hx=>hW'.lt x (by simpa using hx)
 have hsp:s.fn H (ds++[])={ results:=[.lit (.bool true)],args:=ds }:=by rw[append_nil];exact hspec ds (RE hA)
 refine SJ (pa:=p) (pv:=[]) hW' (fun b sp hd=>?_) (fun sp hh=>?_) (fun sp hh=>?_) rfl hb ?_
 .rw[hsp,hres]
  exact⟨[],[],⟨1,by simp[DataW.trod,Value.cells,htb]⟩,rfl,rfl⟩
 .rw[hsp]
  exact lf hl hts hA (fun x hx=>hb.same (hlt x hx)) (fun x hx=>hh x (by simpa using hx))
 .rw[hsp,hv]
  rfl
 .intro j t r ht hr
  rw[hres]at ht hr
  match j with
  |0 =>
   simp[Value.resultList]at ht hr
   subst ht;subst hr
   simp[Value.okWide,htb,Cell.okWide,Cell.ok]
  |j+1=>simp at ht
end
section
variable {Z A S:Type} {α:Type}
def dA(p:Prop)[Decidable p](m:Option Z):Option Z:=if p then m else none
def call(a:Option A)(k:A->Option Z):Option Z:=match a with
 |some x=>k x
 |none=>none
def callG(g:Bool)(a:Option A)(d:A)(k:A->Option Z):Option Z:=match g with
 |true=>call a k
 |false=>k d
def eB(l:List α)(i:Int)(k:α->Option Z):Option Z:=if 0<=i then match l[i.toNat]? with
 |some x=>k x
 |none=>none
 else none
def ig(s:List UInt8)(i:Int)(k:Int->Option Z):Option Z:=if 0<=i then match s[i.toNat]? with
 |some x=>k (x.toNat:Int)
 |none=>none
 else none
def jp(F:S->Option Z)(m:(S->Option Z)->Option Z):Option Z:=m F
def forL:List α->Nat->(Nat->α->S->(S->Option Z)->(S->Option Z)->Option Z)->S->(S->Option Z)->Option Z
 |[],_,_,s,k=>k s
 |x::l,i,f,s,k=>f i x s (fun s'=>forL l (i+1) f s' k) k
def loopN:Nat->(S->(S->Option Z)->(S->Option Z)->Option Z)->S->(S->Option Z)->Option Z
 |0,_,_,_=>none
 |n+1,f,s,k=>f s (fun s'=>loopN n f s' k) k
def eV:Nat:=1099511627776
abbrev dy:=List UInt8
def FP(s:dy):List Int:=s.map fun b=>(b.toNat:Int)
def strOf(l:List Int):dy:=l.map fun n=>UInt8.ofNat n.toNat
theorem zh{z:Z}{p:Prop}[Decidable p]{m:Option Z}(h:dA p m=some z):p/\m=some z:=by
 unfold dA at h;split at h
 .exact⟨by assumption,h⟩
 .cases h
theorem zd{z:Z}{a:Option A}{k:A->Option Z}(h:call a k=some z):∃x,a=some x/\k x=some z:=by
 cases a with
 |none=>cases h
 |some x=>exact⟨x,rfl,h⟩
theorem zX{z:Z}{g:Bool}{a:Option A}{d:A}{k:A->Option Z}(h:callG g a d k=some z):∃x,(g=true->a=some x)/\k x=some z:=by
 cases g with
 |true=>obtain⟨x,h1,h2⟩:=zd h;exact⟨x,fun _=>h1,h2⟩
 |false=>exact⟨d,fun e=>Bool.noConfusion e,h⟩
theorem U9{z:Z}{c:Bool}{x y:Option Z}(h:(bif c then x else y)=some z)(hc:c=true):x=some z:=by rw[hc]at h;exact h
theorem Vb{z:Z}{c:Bool}{x y:Option Z}(h:(bif c then x else y)=some z)(hc:c=false):y=some z:=by rw[hc]at h;exact h
theorem gf{z:Z}{l:List α}{i:Int}{k:α->Option Z}(h:eB l i k=some z) :
  ∃x,(0<=i/\i<(l.length:Int))/\(∀(e:α->List Dt) (d:List Dt),(l.map e).getD i.toNat d=e x)/\l[i.toNat]?=some x/\k x=some z:=by
 unfold eB at h;split at h
 rotate_left
 .cases h
 split at h
 .rename_i x hx
  have:=(List.getElem?_eq_some_iff.1 hx).1;exact⟨x,⟨by assumption,by omega⟩,fun e d=>by simp[getD_eq_getElem?_getD,hx],hx,h⟩
 .cases h
theorem yQ{z:Z}{s:List UInt8}{i:Int}{k:Int->Option Z}(h:ig s i k=some z) :
  ∃c,(0<=i/\i<(s.length:Int))/\(((s.getD i.toNat 0).toNat:Int)=c)/\k c=some z:=by
 unfold ig at h;split at h
 rotate_left
 .cases h
 split at h
 .rename_i x hx
  have:=(List.getElem?_eq_some_iff.1 hx).1;exact⟨_,⟨by assumption,by omega⟩,by simp[getD_eq_getElem?_getD,hx],h⟩
 .cases h
theorem zj{z:Z}{F:S->Option Z}{m:(S->Option Z)->Option Z}(h:jp F m=some z):∃k,(∀s,k s=some z->F s=some z)/\m k=some z:=⟨F,fun _ h=>h,h⟩
theorem zm{z:Z}{l:List α}{i:Nat}{f:Nat->α->S->(S->Option Z)->(S->Option Z)->Option Z}{s:S}{F:S->Option Z}(h:forL l i f s F=some z):∃k,(∀s,k s=some z->F s=some z)/\forL l i f s k=some z:=⟨F,fun _ h=>h,h⟩
theorem jF{z:Z}{n:Nat}{f:S->(S->Option Z)->(S->Option Z)->Option Z}{s:S}{F:S->Option Z}(h:loopN n f s F=some z):∃k,(∀s,k s=some z->F s=some z)/\loopN n f s k=some z:=⟨F,fun _ h=>h,h⟩
theorem p9{z:Z}{l:List α}{i:Nat}{f:Nat->α->S->(S->Option Z)->(S->Option Z)->Option Z}{s:S}{k:S->Option Z}(h:forL (l.drop i) i f s k=some z)(hi:i<l.length) :
  ∃x nx,(∀(e:α->List Dt) (d:List Dt),(l.map e).getD i d=e x)/\(∀d,l.getD i d=x)/\(∀s',nx s'=some z->forL (l.drop (i+1)) (i+1) f s' k=some z)/\f i x s nx k=some z:=by
 rw[drop_eq_getElem_cons hi]at h;exact⟨l[i],fun s'=>forL (l.drop (i+1)) (i+1) f s' k,fun e d=>by simp[getD_eq_getElem?_getD,hi],fun d=>by simp[getD_eq_getElem?_getD,hi],fun _ h=>h,h⟩
theorem p8{z:Z}{l:List α}{i:Nat}{f:Nat->α->S->(S->Option Z)->(S->Option Z)->Option Z}{s:S}{k:S->Option Z}(h:forL (l.drop i) i f s k=some z)(hi:¬ i<l.length):k s=some z:=by
 rw[drop_eq_nil_of_le (by omega)]at h;exact h
theorem Dz{l:List α}{e:α->List Dt}{d:α}{i:Nat}:(l.map e).getD i (e d)=e (l.getD i d):=by
 simp only[getD_eq_getElem?_getD,getElem?_map]
 cases l[i]? <;> rfl
theorem mS{l:List α}{e:α->List Dt}{d:α}{i:Nat}(hi:i<l.length)(z:List Dt):(l.map e).getD i z=e (l.getD i d):=by
 simp[getD_eq_getElem?_getD,hi]
theorem tj{β:Type}(n:Nat)(f:α->β)(l:List α):(l.map f).take n=(l.take n).map f:=by rw[map_take]
theorem uj{β:Type}(n:Nat)(f:α->β)(l:List α):(l.map f).drop n=(l.drop n).map f:=by rw[map_drop]
theorem pq{β:Type}(f:α->β)(a b:List α):a.map f++b.map f=(a++b).map f:=by rw[map_append]
theorem BG(l:List UInt8):(ByteArray.mk l.toArray).data.toList=l:=by simp
theorem xD:((⟨#[]⟩:ByteArray).data.toList:List UInt8)=[]:=rfl
theorem qP{i n:Nat}(h:decide ((i:Int)<(n:Int))=true):i<n:=by simpa using h
theorem mg{i n:Nat}(h:decide ((i:Int)<(n:Int))=false):¬ i<n:=by simpa using h
theorem qc{i n:Nat}(h:i<n)(hn:n<=274877906944):IntKind.i64.wrap ((i:Int)+1)=((i+1:Nat):Int):=by rw[qg (by omega) (by omega)];omega
end
section
variable {P:Program} {kl:List Bool} {n:Nat} {B:Bs} {Q:Qt} {E:dz} {H:List Ob}
theorem cz{id:Nat}{os:List Oper}(plan:Plan)(hm:P.follows .mixedOrders=true)(hl:plan.length=os.length)(hp:jy os.toArray plan [] (Array.replicate os.length false)=true)
  (h:∀K:dz->List Ob->Prop,(∀E H,Q .normal E H->K E H)->mY P kl n B os.toArray K (zkT P kl n os plan ⟨[],E,H,True⟩)):Wp P kl n B (.region id os.toArray true) Q E H :=
 cK plan hm hl hp fun K' hK'=>Dr.run (h K' fun E' H' hy=>hK' E' H' hy)
end
section
variable {P:Program} {kl:List Bool} {n:Nat} {B:Bs} {Q:Qt} {E:dz} {H:List Ob}
theorem ca{x y:Code}(h:∀K:dz->List Ob->Prop,(∀E H,Wp P kl n B y Q E H->K E H)->(∀E H E' H',fG kl E H E' H'->K E' H'->K E H)->Wp P kl n B x (zx K Q) E H):Wp P kl n B (.seq x y) Q E H:=by
 intro hB a w hR;refine wp_seq (wp_mono (h _ (fun _ _ h=>h) (fun _ _ _ _ hw h=>Wp.weak hw h) hB a w hR) ?_);intro e a' w' ⟨E',H',hq,hR'⟩
 cases e <;> first|exact hq hB a' w' hR'|exact⟨E',H',hq,hR'⟩
theorem Wp.forL{Z S α:Type}{z:Z}{f:Nat->α->S->(S->Option Z)->(S->Option Z)->Option Z}{k:S->Option Z}{l:List α}{c:Code}{s0:S}(live:Nat->S->dz)(objs:Nat->S->List Ob)(h0:fG kl E H (live 0 s0) (objs 0 s0))(hm:Vc.forL l 0 f s0 k=some z)
  (round:∀(i:Nat) (s:S),i<=l.length->Vc.forL (l.drop i) i f s k=some z->Wp P kl n B c (zx (fun E' H'=>∃s',i<l.length/\Vc.forL (l.drop (i+1)) (i+1) f s' k=some z/\fG kl E' H' (live (i+1) s') (objs (i+1) s')) Q) (live i s) (objs i s)):Wp P kl n B (.loop c) Q E H:=by
 refine Wp.loop (S:=Nat×S) (fun t=>live t.1 t.2) (fun t=>objs t.1 t.2) (fun t=>t.1<=l.length/\Vc.forL (l.drop t.1) t.1 f t.2 k=some z) (fun t=>l.length-t.1) (0,s0) h0 ⟨Nat.zero_le _,hm⟩ fun t ⟨h1,h2⟩=>(round t.1 t.2 h1 h2).mono fun e E' H' h=>?_
 cases e with
 |normal=>obtain⟨s',h3,h4,h5⟩:=h;exact⟨(t.1+1,s'),⟨h3,h4⟩,by simp only;omega,h5⟩
 |_=>exact h
theorem Wp.loopN{Z S:Type}{z:Z}{f:S->(S->Option Z)->(S->Option Z)->Option Z}{k:S->Option Z}{m:Nat}{c:Code}{s0:S}(live:S->dz)(objs:S->List Ob)(h0:fG kl E H (live s0) (objs s0))(hm:Vc.loopN m f s0 k=some z)
  (round:∀(s:S) (nx:S->Option Z),f s nx k=some z->Wp P kl n B c (zx (fun E' H'=>∃s',nx s'=some z/\fG kl E' H' (live s') (objs s')) Q) (live s) (objs s)):Wp P kl n B (.loop c) Q E H:=by
 refine Wp.loop (S:=Nat×S) (fun t=>live t.2) (fun t=>objs t.2) (fun t=>Vc.loopN t.1 f t.2 k=some z) (fun t=>t.1) (m,s0) h0 hm fun t ht=>?_
 obtain⟨i,s⟩:=t
 cases i with
 |zero=>cases ht
 |succ i =>
  refine(round s (fun s'=>Vc.loopN i f s' k) ht).mono fun e E' H' h=>?_
  cases e with
  |normal=>obtain⟨s',h3,h4⟩:=h;exact⟨(i,s'),h3,Nat.lt_succ_self _,h4⟩
  |_=>exact h
theorem cd{c:Code}(slot:Nat)(T:TypeId)(sz:Nat)(h:ei E slot=.nils)(hc:Wp P kl n B c Q ((slot,.buf H.length)::E) (H++[.buf T sz []])):Wp P kl n B c Q E H:=by
 intro hB a w hR
 have hv:a.tmps.getD slot undef=.slice none 0 0:=by
  obtain⟨K,G,_,_,hE,_⟩:=hR;have:=hE slot;rw[h]at this
  simpa only[VR]using this
 obtain⟨K,G,h1,h2,h3,h4,h5,h6,h7⟩:=kq hR T sz;refine hc hB a w ⟨K,G,h1,h2,fun m=>?_,h4,h5,h6⟩;simp only[ei];split
 .rename_i e;subst e;rw[hv];exact h7
 .exact h3 m
theorem cV{c:Code}(o off:Nat)(X:Ob)(hX:∀K h G,ObR K h G ⟨none,.slice none 0 0⟩ X){T0:TypeId}{vs:List Va}(ho:dT H o=.cells T0 vs)(h:vs[off]?=some .nils)(hc:Wp P kl n B c Q E (H.set o (.cells T0 (vs.set off (.buf H.length)))++[X])):Wp P kl n B c Q E H:=by
 intro hB a w hR;obtain⟨K,G,h1,h2,h3,h4,h5,h6,h7⟩:=P4 hR X hX;have hoH:=zJ ho (by simp);have hol:=(List.getElem?_eq_some_iff.1 hoH).1
 have ho':(H++[X])[o]?=some (.cells T0 vs):=by rw[getElem?_append_left hol];exact hoH
 have hlen:=h2.len;refine hc hB a w ⟨K,G,h1,⟨by simpa using hlen,h2.kb,h2.gb,h2.inj,fun i g x hg hx=>?_,h2.tb⟩,h3,h4,h5,fun i hi=>?_⟩
 .by_cases e:i=o
  .subst e
   rw[getElem?_append_left (by simpa using hol),getElem?_set_self hol]at hx;cases hx;obtain⟨b,cs,r1,r2,r3⟩:=h2.ob i g _ hg ho';refine⟨b,cs,r1,r2,?_⟩;obtain⟨c0,hc0,hv0⟩:=r3.get off _ h;simp only[VR]at hv0;subst hv0;have:=r3.set h7 off
   rwa [show cs.set off (.slice none 0 0)=cs by
    apply ext_getElem?;intro j
    by_cases hj:off=j
    .subst hj;rw[getElem?_set_self (List.getElem?_eq_some_iff.1 hc0).1,hc0]
    .rw[getElem?_set_ne hj]]at this
  .refine h2.ob i g x hg ?_
   rw[<-hx];simp only[getElem?_append,length_set,getElem?_set_ne (Ne.symm e)]
 .obtain⟨vs',hvs',hkt⟩:=h6 i hi
  by_cases e:i=o
  .subst e
   exact⟨_,by rw[getElem?_append_left (by simpa using hol),getElem?_set_self hol],rfl⟩
  .refine⟨vs',?_,hkt⟩
   rw[<-hvs'];simp only[getElem?_append,length_set,getElem?_set_ne (Ne.symm e)]
theorem cw{c:Code}(o off:Nat)(T:TypeId)(sz:Nat){T0:TypeId}{vs:List Va}(ho:dT H o=.cells T0 vs)(h:vs[off]?=some .nils)(hc:Wp P kl n B c Q E (H.set o (.cells T0 (vs.set off (.buf H.length)))++[.buf T sz []])):Wp P kl n B c Q E H :=
 cV o off (.buf T sz []) (fun _ _ _=>⟨by simp,[],by simp[DRss],.inl ⟨⟨none,rfl⟩,rfl,rfl⟩⟩) ho h hc
theorem dl{c:Code}(o off:Nat)(T:TypeId){T0:TypeId}{vs:List Va}(ho:dT H o=.cells T0 vs)(h:vs[off]?=some .nils)(hc:Wp P kl n B c Q E (H.set o (.cells T0 (vs.set off (.buf H.length)))++[.sb T []])):Wp P kl n B c Q E H :=
 cV o off (.sb T []) (fun _ _ _=>⟨by simp,.inl ⟨rfl,rfl,rfl⟩⟩) ho h hc
theorem rQ:∀{H:List Ob} {o:Nat} {x:Ob},H[o]?=some x->dT H o=x
 |[],_,_,h=>by simp at h
 |y::l,0,x,h=>by simpa [dT]using h
 |y::l,n+1,x,h=>by simp only[dT];exact rQ (by simpa using h)
theorem dr{c:Code}(o off:Nat)(v':Va){v:Va}{T0:TypeId}{vs:List Va}(ho:dT H o=.cells T0 vs)(h:vs[off]?=some v)(hl:gn v v')(hc:Wp P kl n B c Q E (H.set o (.cells T0 (vs.set off v')))):Wp P kl n B c Q E H:=by
 intro hB a w ⟨K,G,h1,h2,h3,h4,h5,h6⟩;have hoH:=zJ ho (by simp);have hol:=(List.getElem?_eq_some_iff.1 hoH).1;refine hc hB a w ⟨K,G,h1,⟨by simpa using h2.len,h2.kb,h2.gb,h2.inj,fun i g x hg hx=>?_,h2.tb⟩,h3,h4,h5,fun i hi=>?_⟩
 .by_cases e:i=o
  .subst e
   rw[getElem?_set_self hol]at hx;cases hx;obtain⟨b,cs,r1,r2,r3⟩:=h2.ob i g _ hg hoH;refine⟨b,cs,r1,r2,?_⟩;obtain⟨c0,hc0,hv0⟩:=r3.get off _ h;have:=r3.set (i6 hl hv0) off
   rwa [show cs.set off c0=cs by
    apply ext_getElem?;intro j
    by_cases hj:off=j
    .subst hj;rw[getElem?_set_self (List.getElem?_eq_some_iff.1 hc0).1,hc0]
    .rw[getElem?_set_ne hj]]at this
  .rw[getElem?_set_ne (Ne.symm e)]at hx
   exact h2.ob i g x hg hx
 .obtain⟨vs',hvs',hkt⟩:=h6 i hi
  by_cases e:i=o
  .subst e
   exact⟨_,getElem?_set_self hol,rfl⟩
  .exact⟨vs',by rw[getElem?_set_ne (Ne.symm e)];exact hvs',hkt⟩
theorem cW{c:Code}(o:Nat)(T:TypeId){T0:TypeId}(ho:dT H o=.cells T0 [.nil,.nils])(hc:Wp P kl n B c Q E (H.set o (.cells T0 [.np o,.buf H.length])++[.sb T []])):Wp P kl n B c Q E H:=by
 refine dl o 1 T ho rfl ?_;have hol:=(List.getElem?_eq_some_iff.1 (zJ ho (by simp))).1;refine dr o 0 (.np o) (T0:=T0) (vs:=[.nil,.buf H.length]) (v:=.nil) ?_ rfl trivial ?_
 .refine rQ ?_
  rw[getElem?_append_left (by simpa using hol),getElem?_set_self hol];rfl
 .simpa [set_append,hol]using hc
end
theorem vM(n:Nat):eP n []=True:=eq_true (fun _ h=>by cases h)
theorem tr(n:Nat)(r:List Dt)(rs:List (List Dt)):eP n (r::rs)=(r.length=n/\eP n rs):=by
 apply propext;constructor
 .intro h;exact⟨h r (by simp),fun x hx=>h x (by simp[hx])⟩
 .rintro⟨h1,h2⟩ x hx
  rcases mem_cons.1 hx with rfl|hx
  .exact h1
  .exact h2 x hx
attribute [go_sem] vM tr xD BG zr U7 Option.some.injEq
def rH:List Nat->Nat->Option Nat
 |[],_=>none
 |i::ids,o=>if i=o then some 0 else match rH ids o with
  |some j=>some (j+1)
  |none=>none
def jH:List Nat->Nat->Nat->Nat
 |[],base,j=>base+j
 |i::_,_,0=>i
 |_::ids,base,j+1=>jH ids base j
mutual
def fg(ids:List Nat):Va->Option Va
 |.ptr o a=>match rH ids o with
  |some j=>some (.ptr j a)
  |none=>none
 |.cs o a=>match rH ids o with
  |some j=>some (.cs j a)
  |none=>none
 |.el o s i a=>match rH ids o with
  |some j=>some (.el j s i a)
  |none=>none
 |.buf o=>match rH ids o with
  |some j=>some (.buf j)
  |none=>none
 |.mp o=>match rH ids o with
  |some j=>some (.mp j)
  |none=>none
 |.np o=>match rH ids o with
  |some j=>some (.np j)
  |none=>none
 |.sd o=>match rH ids o with
  |some j=>some (.sd j)
  |none=>none
 |.vw o s a n=>match rH ids o with
  |some j=>some (.vw j s a n)
  |none=>none
 |.bufc o s=>match rH ids o with
  |some j=>some (.bufc j s)
  |none=>none
 |.fn f vs=>match ip ids vs with
  |some us=>some (.fn f us)
  |none=>none
 |.agg vs=>match ip ids vs with
  |some us=>some (.agg us)
  |none=>none
 |.tup vs=>match ip ids vs with
  |some us=>some (.tup us)
  |none=>none
 |.cnd _ _=>none
 |v=>some v
def ip(ids:List Nat):List Va->Option (List Va)
 |[]=>some []
 |v::vs=>match fg ids v,ip ids vs with
  |some u,some us=>some (u::us)
  |_,_=>none
end
mutual
def iG(ids:List Nat):Va->Option Va
 |.nils=>some (.p (.l []))
 |.full r=>some (.p (.l r))
 |.agg vs=>match jX ids vs with
  |some us=>some (.agg us)
  |none=>none
 |v=>fg ids v
def jX(ids:List Nat):List Va->Option (List Va)
 |[]=>some []
 |v::vs=>match iG ids v,jX ids vs with
  |some u,some us=>some (u::us)
  |_,_=>none
end
def nE(ids:List Nat):Ob->Option Ob
 |.cells T vs=>match ip ids vs with
  |some us=>some (.cells T us)
  |none=>none
 |.it _ _ _=>none
 |x=>some x
def jq(ids:List Nat)(H:List Ob):List Nat->Option (List Ob)
 |[]=>some []
 |i::is=>match nE ids (dT H i),jq ids H is with
  |some x,some X=>some (x::X)
  |_,_=>none
mutual
def ew(ids:List Nat)(base:Nat):Va->Va
 |.ptr o a=>.ptr (jH ids base o) a
 |.cs o a=>.cs (jH ids base o) a
 |.el o s i a=>.el (jH ids base o) s i a
 |.buf o=>.buf (jH ids base o)
 |.mp o=>.mp (jH ids base o)
 |.np o=>.np (jH ids base o)
 |.sd o=>.sd (jH ids base o)
 |.vw o s a n=>.vw (jH ids base o) s a n
 |.bufc o s=>.bufc (jH ids base o) s
 |.fn f vs=>.fn f (jk ids base vs)
 |.agg vs=>.agg (jk ids base vs)
 |.tup vs=>.tup (jk ids base vs)
 |.cnd _ _=>.top
 |v=>v
def jk(ids:List Nat)(base:Nat):List Va->List Va
 |[]=>[]
 |v::vs=>ew ids base v::jk ids base vs
end
def BP(ids:List Nat)(base:Nat):Ob->Ob
 |.cells T vs=>.cells T (jk ids base vs)
 |.it _ _ _=>.gone
 |x=>x
def gr(ids:List Nat)(base:Nat):List Ob->List Ob
 |[]=>[]
 |x::X=>BP ids base x::gr ids base X
def eo{α:Type}:List α->List Nat->List α->List α
 |H,i::ids,x::X=>eo (H.set i x) ids X
 |H,[],X=>H++X
 |H,_::_,[]=>H
def j0(m:Nat):List Nat->Bool
 |[]=>true
 |i::ids=>decide (i<m)&&!(ids.contains i)&&j0 m ids
def fT(ids:List Nat)(H:List Ob)(o:Nat):Bool:=!(ids.contains o&&!(dT H o).kept)
theorem lC:∀{ids:List Nat} {o j:Nat},rH ids o=some j->ids[j]?=some o
 |[],_,_,h=>by simp[rH]at h
 |i::ids,o,j,h=>by
  simp only[rH]at h;split at h
  .cases h;rename_i e;simp[e]
  .split at h
   .rename_i j' hj
    cases h
    simpa using lC hj
   .cases h
theorem H6{m:Nat}:∀{ids:List Nat},j0 m ids=true->ids.Nodup/\∀i∈ids,i<m
 |[],_=>by simp
 |i::ids,h=>by
  simp only[j0,Bool.and_eq_true,decide_eq_true_eq,Bool.not_eq_true',contains_eq_mem,decide_eq_false_iff_not]at h;obtain⟨h1,h2⟩:=H6 h.2;refine⟨nodup_cons.2 ⟨h.1.2,h1⟩,fun j hj=>?_⟩
  rcases mem_cons.1 hj with rfl|hj
  .exact h.1.1
  .exact h2 j hj
theorem uQ:∀{ids:List Nat} {base j i:Nat},ids[j]?=some i->jH ids base j=i
 |[],_,_,_,h=>by simp at h
 |i::ids,base,0,k,h=>by simp at h;simp[jH,h]
 |i::ids,base,j+1,k,h=>by simp only[jH];exact uQ (by simpa using h)
theorem rj:∀{ids:List Nat} {base j:Nat},ids.length<=j->jH ids base j=base+(j-ids.length)
 |[],_,_,_=>by simp[jH]
 |i::ids,base,0,h=>by simp at h
 |i::ids,base,j+1,h=>by simp only[jH,length_cons];rw[rj (by simpa using h)];omega
theorem AC{α:Type}:∀{ids:List Nat} {H X:List α},ids.length<=X.length->(eo H ids X).length=H.length+(X.length-ids.length)
 |[],H,X,_=>by simp[eo]
 |i::ids,H,x::X,h=>by simp only[eo];rw[AC (by simpa using h)];simp
 |i::ids,H,[],h=>by simp at h
theorem Cd{α:Type}:∀{ids:List Nat} {H X:List α} {o:Nat},o∉ids->o<H.length->(eo H ids X)[o]?=H[o]?
 |[],H,X,o,_,h=>by simp only[eo];rw[getElem?_append_left h]
 |i::ids,H,x::X,o,hn,h=>by
  simp only[eo];rw[Cd (fun h=>hn (by simp[h])) (by simpa using h),getElem?_set_ne (fun e=>hn (by simp[e]))]
 |i::ids,H,[],o,_,_=>rfl
theorem Ao{α:Type}:∀{ids:List Nat} {H X:List α} {j i:Nat},ids.Nodup->(∀i∈ids,i<H.length)->ids.length<=X.length->ids[j]?=some i->(eo H ids X)[i]?=X[j]?
 |[],_,_,_,_,_,_,_,h=>by simp at h
 |i::ids,H,[],_,_,_,_,hl,_=>by simp at hl
 |i::ids,H,x::X,0,k,hn,hlt,_,h=>by
  simp at h;subst h;simp only[eo];rw[Cd (nodup_cons.1 hn).1 (by simpa using hlt i (by simp)),getElem?_set_self (hlt i (by simp))];rfl
 |i::ids,H,x::X,j+1,k,hn,hlt,hl,h=>by
  simp only[eo];rw[Ao (nodup_cons.1 hn).2 (fun q hq=>by simpa using hlt q (by simp[hq])) (by simpa using hl) (by simpa using h)];rfl
theorem Ll{α:Type}:∀{ids:List Nat} {H X:List α} {j:Nat},ids.length<=j->(eo H ids X)[H.length+(j-ids.length)]?=X[j]?
 |[],H,X,j,_=>by simp only[eo];rw[getElem?_append_right (by omega)];simp
 |i::ids,H,[],j,_=>by simp only[eo];rw[getElem?_eq_none (by omega)];rfl
 |i::ids,H,x::X,0,h=>by simp at h
 |i::ids,H,x::X,j+1,h=>by
  simp only[eo];have:=Ll (H:=H.set i x) (X:=X) (ids:=ids) (j:=j) (by simpa using h);rw[length_set]at this
  simpa using this
theorem H7{α:Type}{ids:List Nat}{H X:List α}{o:Nat}{y:α}(hn:ids.Nodup)(hlt:∀i∈ids,i<H.length)(hl:ids.length<=X.length)(h:(eo H ids X)[o]?=some y) :
  (∃j:Nat,ids[j]?=some o/\X[j]?=some y)∨(o∉ids/\o<H.length/\H[o]?=some y)∨(∃j:Nat,ids.length<=j/\o=H.length+(j-ids.length)/\X[j]?=some y):=by
 by_cases ho:o∈ids
 .obtain⟨j,hj⟩:=getElem?_of_mem ho
  exact .inl ⟨j,hj,by rw[<-Ao hn hlt hl hj];exact h⟩
 .rcases Nat.lt_or_ge o H.length with h1|h1
  .exact .inr (.inl ⟨ho,h1,by rw[<-Cd ho h1];exact h⟩)
  .refine .inr (.inr ⟨o-H.length+ids.length,by omega,by omega,?_⟩)
   rw[<-Ll (H:=H) (X:=X) (j:=o-H.length+ids.length) (ids:=ids) (by omega)];rw[show H.length+(o-H.length+ids.length-ids.length)=o by omega];exact h
section
variable {K:Nat->Prop} {h:Array Obj} {G G1:List Gh} {ids:List Nat} {base:Nat}
mutual
theorem lv(hG:∀(j o:Nat),ids[j]?=some o->G1[j]?=G[o]?):∀{c:Value} {v u:Va},fg ids v=some u->VR K h G c v->VR K h G1 c u
 |c,.p x,u,hp,hv=>by simp only[fg]at hp;cases hp;simpa only[VR]using hv
 |c,.nils,u,hp,hv=>by simp only[fg]at hp;cases hp;simpa only[VR]using hv
 |c,.full rows,u,hp,hv=>by simp only[fg]at hp;cases hp;simpa only[VR]using hv
 |c,.rp row,u,hp,hv=>by simp only[fg]at hp;cases hp;simpa only[VR]using hv
 |c,.nil,u,hp,hv=>by simp only[fg]at hp;cases hp;simpa only[VR]using hv
 |c,.raw v,u,hp,hv=>by simp only[fg]at hp;cases hp;simpa only[VR]using hv
 |c,.er v,u,hp,hv=>by simp only[fg]at hp;cases hp;simpa only[VR]using hv
 |c,.top,u,hp,hv=>by simp only[fg]at hp;cases hp;simp[VR]
 |c,.ptr o a,u,hp,hv=>by
  simp only[fg]at hp;split at hp
  .rename_i j hj;cases hp;simp only[VR]at *;obtain⟨g,b,h1,h2⟩:=hv;exact⟨g,b,by rw[hG j o (lC hj)];exact h1,h2⟩
  .cases hp
 |c,.cs o a,u,hp,hv=>by
  simp only[fg]at hp;split at hp
  .rename_i j hj;cases hp;simp only[VR]at *;obtain⟨g,b,h1,h2⟩:=hv;exact⟨g,b,by rw[hG j o (lC hj)];exact h1,h2⟩
  .cases hp
 |c,.el o s i a,u,hp,hv=>by
  simp only[fg]at hp;split at hp
  .rename_i j hj;cases hp;simp only[VR]at *;obtain⟨g,b,n,cap,h1,h2⟩:=hv;exact⟨g,b,n,cap,by rw[hG j o (lC hj)];exact h1,h2⟩
  .cases hp
 |c,.buf o,u,hp,hv=>by
  simp only[fg]at hp;split at hp
  .rename_i j hj;cases hp;simp only[VR]at *;obtain⟨g,h1,h2⟩:=hv;exact⟨g,by rw[hG j o (lC hj)];exact h1,h2⟩
  .cases hp
 |c,.mp o,u,hp,hv=>by
  simp only[fg]at hp;split at hp
  .rename_i j hj;cases hp;simp only[VR]at *;obtain⟨g,b,h1,h2⟩:=hv;exact⟨g,b,by rw[hG j o (lC hj)];exact h1,h2⟩
  .cases hp
 |c,.np o,u,hp,hv=>by
  simp only[fg]at hp;split at hp
  .rename_i j hj
   cases hp;simp only[VR]at *
   rcases hv with hv|⟨g,b,h1,h2⟩
   .exact .inl hv
   .exact .inr ⟨g,b,by rw[hG j o (lC hj)];exact h1,h2⟩
  .cases hp
 |c,.sd o,u,hp,hv=>by
  simp only[fg]at hp;split at hp
  .rename_i j hj;cases hp;simp only[VR]at *;obtain⟨g,a,n,cap,h1,h2⟩:=hv;exact⟨g,a,n,cap,by rw[hG j o (lC hj)];exact h1,h2⟩
  .cases hp
 |c,.vw o _ _ _,u,hp,hv=>by
  simp only[fg]at hp;split at hp
  .rename_i j hj;cases hp;simp only[VR]at *;obtain⟨g,a,n,cap,h1,h2⟩:=hv;exact⟨g,a,n,cap,by rw[hG j o (lC hj)];exact h1,h2⟩
  .cases hp
 |c,.bufc o _,u,hp,hv=>by
  simp only[fg]at hp;split at hp
  .rename_i j hj;cases hp;simp only[VR]at *;obtain⟨g,a,n,cap,h1,h2⟩:=hv;exact⟨g,a,n,cap,by rw[hG j o (lC hj)];exact h1,h2⟩
  .cases hp
 |c,.fn f vs,u,hp,hv=>by
  simp only[fg]at hp;split at hp
  .rename_i us hu;cases hp;simp only[VR]at *;obtain⟨cs,h1,h2⟩:=hv;exact⟨cs,h1,Hv hG hu h2⟩
  .cases hp
 |c,.agg vs,u,hp,hv=>by
  simp only[fg]at hp;split at hp
  .rename_i us hu;cases hp;simp only[VR]at *;obtain⟨cs,h1,h2⟩:=hv;exact⟨cs,h1,Hv hG hu h2⟩
  .cases hp
 |c,.tup vs,u,hp,hv=>by
  simp only[fg]at hp;split at hp
  .rename_i us hu;cases hp;simp only[VR]at *;obtain⟨cs,h1,h2⟩:=hv;exact⟨cs,h1,Hv hG hu h2⟩
  .cases hp
 |c,.cnd _ _,u,hp,_=>by simp[fg]at hp
theorem Hv(hG:∀(j o:Nat),ids[j]?=some o->G1[j]?=G[o]?):∀{cs:List Value} {vs us:List Va},ip ids vs=some us->VRs K h G cs vs->VRs K h G1 cs us
 |cs,[],us,hp,hv=>by simp only[ip]at hp;cases hp;simpa only[VRs]using hv
 |cs,v::vs,us,hp,hv=>by
  simp only[ip]at hp;split at hp
  .rename_i u us' h1 h2
   cases hp;simp only[VRs]at *;obtain⟨c,cs',e1,e2,e3⟩:=hv;exact⟨c,cs',e1,lv hG h1 e2,Hv hG h2 e3⟩
  .cases hp
end
mutual
theorem ri(hG:∀(j:Nat) (g:Gh),G1[j]?=some g->G[jH ids base j]?=some g):∀{c:Value} {v:Va},VR K h G1 c v->VR K h G c (ew ids base v)
 |c,.p x,hv=>by simpa only[ew,VR]using hv
 |c,.nils,hv=>by simpa only[ew,VR]using hv
 |c,.full rows,hv=>by simpa only[ew,VR]using hv
 |c,.rp row,hv=>by simpa only[ew,VR]using hv
 |c,.nil,hv=>by simpa only[ew,VR]using hv
 |c,.raw v,hv=>by simpa only[ew,VR]using hv
 |c,.er v,hv=>by simpa only[ew,VR]using hv
 |c,.top,_=>by simp[ew,VR]
 |c,.ptr o a,hv=>by simp only[ew,VR]at *;obtain⟨g,b,h1,h2⟩:=hv;exact⟨g,b,hG o g h1,h2⟩
 |c,.cs o a,hv=>by simp only[ew,VR]at *;obtain⟨g,b,h1,h2⟩:=hv;exact⟨g,b,hG o g h1,h2⟩
 |c,.el o s i a,hv=>by simp only[ew,VR]at *;obtain⟨g,b,n,cap,h1,h2⟩:=hv;exact⟨g,b,n,cap,hG o g h1,h2⟩
 |c,.buf o,hv=>by simp only[ew,VR]at *;obtain⟨g,h1,h2⟩:=hv;exact⟨g,hG o g h1,h2⟩
 |c,.mp o,hv=>by simp only[ew,VR]at *;obtain⟨g,b,h1,h2⟩:=hv;exact⟨g,b,hG o g h1,h2⟩
 |c,.np o,hv=>by
  simp only[ew,VR]at *
  rcases hv with hv|⟨g,b,h1,h2⟩
  .exact .inl hv
  .exact .inr ⟨g,b,hG o g h1,h2⟩
 |c,.sd o,hv=>by simp only[ew,VR]at *;obtain⟨g,a,n,cap,h1,h2⟩:=hv;exact⟨g,a,n,cap,hG o g h1,h2⟩
 |c,.vw o _ _ _,hv=>by simp only[ew,VR]at *;obtain⟨g,a,n,cap,h1,h2⟩:=hv;exact⟨g,a,n,cap,hG o g h1,h2⟩
 |c,.bufc o _,hv=>by simp only[ew,VR]at *;obtain⟨g,a,n,cap,h1,h2⟩:=hv;exact⟨g,a,n,cap,hG o g h1,h2⟩
 |c,.fn f vs,hv=>by simp only[ew,VR]at *;obtain⟨cs,h1,h2⟩:=hv;exact⟨cs,h1,Hl hG h2⟩
 |c,.agg vs,hv=>by simp only[ew,VR]at *;obtain⟨cs,h1,h2⟩:=hv;exact⟨cs,h1,Hl hG h2⟩
 |c,.tup vs,hv=>by simp only[ew,VR]at *;obtain⟨cs,h1,h2⟩:=hv;exact⟨cs,h1,Hl hG h2⟩
 |c,.cnd _ _,_=>by simp[ew,VR]
theorem Hl(hG:∀(j:Nat) (g:Gh),G1[j]?=some g->G[jH ids base j]?=some g):∀{cs:List Value} {vs:List Va},VRs K h G1 cs vs->VRs K h G cs (jk ids base vs)
 |cs,[],hv=>by simpa only[jk,VRs]using hv
 |cs,v::vs,hv=>by
  simp only[jk,VRs]at *;obtain⟨c,cs',e1,e2,e3⟩:=hv;exact⟨c,cs',e1,ri hG e2,Hl hG e3⟩
end
mutual
theorem EE(hG:∀(j o:Nat),ids[j]?=some o->G1[j]?=G[o]?):∀{c:Value} {v u:Va},iG ids v=some u->VR K h G c v->VR K h G1 c u
 |c,.nils,u,hp,hv=>by simp only[iG]at hp;cases hp;simp only[VR,DR]at *;exact .inl ⟨⟨none,hv⟩,trivial⟩
 |c,.full r,u,hp,hv=>by simp only[iG]at hp;cases hp;simp only[VR]at *;exact hv.1
 |c,.agg vs,u,hp,hv=>by
  simp only[iG]at hp;split at hp
  .rename_i us h1
   cases hp;simp only[VR]at *;obtain⟨cs,e1,e2⟩:=hv;exact⟨cs,e1,KW hG h1 e2⟩
  .cases hp
 |c,.p _,u,hp,hv=>by unfold iG at hp;exact lv hG hp hv
 |c,.rp _,u,hp,hv=>by unfold iG at hp;exact lv hG hp hv
 |c,.ptr _ _,u,hp,hv=>by unfold iG at hp;exact lv hG hp hv
 |c,.cs _ _,u,hp,hv=>by unfold iG at hp;exact lv hG hp hv
 |c,.el _ _ _ _,u,hp,hv=>by unfold iG at hp;exact lv hG hp hv
 |c,.buf _,u,hp,hv=>by unfold iG at hp;exact lv hG hp hv
 |c,.mp _,u,hp,hv=>by unfold iG at hp;exact lv hG hp hv
 |c,.np _,u,hp,hv=>by unfold iG at hp;exact lv hG hp hv
 |c,.sd _,u,hp,hv=>by unfold iG at hp;exact lv hG hp hv
 |c,.bufc _ _,u,hp,hv=>by unfold iG at hp;exact lv hG hp hv
 |c,.vw _ _ _ _,u,hp,hv=>by unfold iG at hp;exact lv hG hp hv
 |c,.fn _ _,u,hp,hv=>by unfold iG at hp;exact lv hG hp hv
 |c,.tup _,u,hp,hv=>by unfold iG at hp;exact lv hG hp hv
 |c,.nil,u,hp,hv=>by unfold iG at hp;exact lv hG hp hv
 |c,.cnd _ _,u,hp,hv=>by unfold iG at hp;exact lv hG hp hv
 |c,.raw _,u,hp,hv=>by unfold iG at hp;exact lv hG hp hv
 |c,.er _,u,hp,hv=>by unfold iG at hp;exact lv hG hp hv
 |c,.top,u,hp,hv=>by unfold iG at hp;exact lv hG hp hv
theorem KW(hG:∀(j o:Nat),ids[j]?=some o->G1[j]?=G[o]?):∀{cs:List Value} {vs us:List Va},jX ids vs=some us->VRs K h G cs vs->VRs K h G1 cs us
 |cs,[],us,hp,hv=>by simp only[jX]at hp;cases hp;simpa only[VRs]using hv
 |cs,v::vs,us,hp,hv=>by
  simp only[jX]at hp;split at hp
  .rename_i u us' h1 h2
   cases hp;simp only[VRs]at *;obtain⟨c,cs',e1,e2,e3⟩:=hv;exact⟨c,cs',e1,EE hG h1 e2,KW hG h2 e3⟩
  .cases hp
end
theorem wd(hG:∀(j o:Nat),ids[j]?=some o->G1[j]?=G[o]?){g:Gh}{x y:Ob}(hp:nE ids x=some y)(hx:ObR K h G g x):ObR K h G1 g y:=by
 cases x with
 |cells T vs =>
  simp only[nE]at hp;split at hp
  .rename_i us hu
   cases hp;obtain⟨b,cs,h1,h2,h3⟩:=hx;exact⟨b,cs,h1,h2,Hv hG hu h3⟩
  .cases hp
 |it _ _ _=>simp[nE]at hp
 |_=>simp only[nE]at hp;cases hp;exact hx
theorem M2{x y:Ob}(hp:nE ids x=some y):y.kept=x.kept:=by
 cases x with
 |cells T vs =>
  simp only[nE]at hp;split at hp
  .cases hp;rfl
  .cases hp
 |it _ _ _=>simp[nE]at hp
 |_=>simp only[nE]at hp;cases hp;rfl
theorem xX(hG:∀(j:Nat) (g:Gh),G1[j]?=some g->G[jH ids base j]?=some g){g:Gh}{x:Ob}(hx:ObR K h G1 g x):ObR K h G g (BP ids base x):=by
 cases x with
 |cells T vs =>
  obtain⟨b,cs,h1,h2,h3⟩:=hx;exact⟨b,cs,h1,h2,Hl hG h3⟩
 |it _ _ _=>trivial
 |_=>exact hx
end
theorem pf(ids:List Nat)(base:Nat)(x:Ob):(BP ids base x).kept=x.kept:=by cases x <;> rfl
theorem Ds(ids:List Nat)(base:Nat):∀(X:List Ob) (j:Nat),(gr ids base X)[j]?=(X[j]?).map (BP ids base)
 |[],j=>by simp[gr]
 |x::X,0=>by simp[gr]
 |x::X,j+1=>by simp only[gr,getElem?_cons_succ];exact Ds ids base X j
theorem qd(ids:List Nat)(base:Nat):∀X:List Ob,(gr ids base X).length=X.length
 |[]=>rfl
 |x::X=>by simp[gr,qd ids base X]
theorem F5{ids:List Nat}{H:List Ob}:∀{is:List Nat} {X:List Ob},jq ids H is=some X->X.length=is.length/\∀(j i:Nat),is[j]?=some i->∃x,X[j]?=some x/\nE ids (dT H i)=some x
 |[],X,h=>by simp only[jq]at h;cases h;simp
 |i::is,X,h=>by
  simp only[jq]at h;split at h
  .rename_i x X' h1 h2
   cases h;obtain⟨h3,h4⟩:=F5 h2;refine⟨by simp[h3],fun j k hj=>?_⟩
   cases j with
   |zero=>simp at hj;subst hj;exact⟨x,rfl,h1⟩
   |succ j=>simpa using h4 j k (by simpa using hj)
  .cases h
theorem FR:∀{H:List Ob} {o:Nat} {x:Ob},H[o]?=some x->dT H o=x
 |[],_,_,h=>by simp at h
 |y::H,0,x,h=>by simp at h;simp[dT,h]
 |y::H,o+1,x,h=>by simp only[dT];exact FR (by simpa using h)
theorem Nd{X:List Ob}{o:Nat}{x:Ob}(h:X[o]?=some x)(hk:x.kept=true):dG (kinds X) o=true:=by
 induction X generalizing o with
 |nil=>simp at h
 |cons y X ih =>
  cases o with
  |zero=>simp at h;subst h;simp[kinds,dG,hk]
  |succ o=>simp only[kinds,dG];exact ih (by simpa using h)
section
variable {P:Program} {kl:List Bool} {n:Nat} {B:Bs} {K:dz->List Ob->Prop} {E:dz} {H:List Ob} {ops:Array Oper}
theorem HD{o:Oper}{c:Call}{fop:Operand}{f:FuncId}{caps args:List Va}{X:List Ob}{Post:Va->List Ob->Prop}(ids:List Nat)(hs:Does P f args X Post)(e1:o.op=.call c)(e3:c.callee=.value fop)(hk:opOk true E fop/\allOk true E c.args.toList)(e4:opnd E fop=.fn f caps)
  (hp:jX ids (opnds E c.args.toList++caps)=some args) (hXs:jq ids H ids=some X) (hids:j0 H.length ids=true) {a:Act} {w:World} {Q:Exit->Act->World->Prop} {K':Act->World->Prop} (hR:Rel (cx P kl n B) E H a w)
  (hK':∀c' r X' w',Post r X'->r.ok->RelV (cx P kl n B) (ik (fT ids H) E) (eo (gh (fT ids H) H) ids (gr ids H.length X')) c' (ew ids H.length r) a w'->K' (a.put o.dst c') w'):o.wp P a w K' Q:=by
 obtain⟨Kk,G,hX,hS,hE,hdf,hn,hkp⟩:=hR;have hvf:=zz hE rfl fop hk.1;rw[e4]at hvf;simp only[VR]at hvf;obtain⟨cs,hcs,hcv⟩:=hvf;have hargs:=vt hE rfl c.args.toList hk.2;obtain⟨hnd,hlt⟩:=H6 hids;obtain⟨hXl,hXg⟩:=F5 hXs
 -- the ghosts that are handed over
 have hGl:∀i∈ids,i<G.length:=fun i hi=>by rw[hS.len];exact hlt i hi
 obtain⟨Gs,hGsl,hGs⟩:∃Gs:List Gh,Gs.length=ids.length/\∀(j i:Nat),ids[j]?=some i->Gs[j]?=G[i]?:=by
  refine⟨ids.map fun i=>G.getD i ⟨none,undef⟩,by simp,fun j i hj=>?_⟩;have:=hGl i (mem_of_getElem? hj);simp[hj,getElem?_eq_getElem this]
 have inv:∀{j:Nat} {g:Gh},Gs[j]?=some g->∃i,ids[j]?=some i/\G[i]?=some g:=by
  intro j g hg;have hj:=(List.getElem?_eq_some_iff.1 hg).1;rw[hGsl]at hj;exact⟨ids[j],getElem?_eq_getElem hj,by rw[<-hGs j _ (getElem?_eq_getElem hj)];exact hg⟩
 have hSs:St Kk Gs X w:=by
  refine⟨by rw[hGsl,hXl],hS.kb,fun j g b hg hb=>?_,fun j j' g g' b hg hg' hb hb'=>?_,fun j g x hg hx=>?_,hS.tb⟩
  .obtain⟨i,_,hi⟩:=inv hg
   exact hS.gb i g b hi hb
  .obtain⟨i,hij,hi⟩:=inv hg
   obtain⟨i',hij',hi'⟩:=inv hg';obtain rfl:=hS.inj i i' g g' b hi hi' hb hb';exact(getElem?_inj (List.getElem?_eq_some_iff.1 hij).1 hnd).1 (hij.trans hij'.symm)
  .obtain⟨i,hij,hi⟩:=inv hg
   obtain⟨x',hx',hrn⟩:=hXg j i hij
   rw[hx]at hx';cases hx'
   have hil:=hlt i (mem_of_getElem? hij)
   have hoi:H[i]?=some (dT H i)∨dT H i=.gone:=by
    rcases Classical.em (dT H i=.gone)with e|e
    .exact .inr e
    .exact .inl (zJ rfl e)
   rcases hoi with hoi|hoi
   .exact wd (fun j o h=>hGs j o h) hrn (hS.ob i g _ hi hoi)
   .rw[hoi]at hrn;simp only[nE]at hrn;cases hrn;trivial
 have hall:=KW (fun j o h=>hGs j o h) hp (hargs.append hcv);unfold Oper.wp;rw[DG e1 e3 hcs hs.1];simp only[Oper.upon];refine(hs.2 Kk Gs w _ hSs hall).mono ?_;rintro e w' ⟨c',r,X',K1,G1,rfl,hpost,hX1,hS1,hv,hkp1⟩
 have hGl1:ids.length<=G1.length:=by rw[<-hGsl];exact hX1.glen
 have hXl1:ids.length<=X'.length:=by rw[<-hS1.len];exact hGl1
 let G2:=eo G ids G1
 -- how the ghosts lie in the new list
 have g2new:∀(j:Nat) (g:Gh),G1[j]?=some g->G2[jH ids H.length j]?=some g:=by
  intro j g hg
  rcases Nat.lt_or_ge j ids.length with h|h
  .rw[uQ (getElem?_eq_getElem h)]
   show(eo G ids G1)[_]?=_
   rw[Ao hnd hGl hGl1 (getElem?_eq_getElem h)];exact hg
  .rw[rj h,<-hS.len]
   show(eo G ids G1)[_]?=_
   rw[Ll h];exact hg
 have g2cases:∀{o:Nat} {g:Gh},G2[o]?=some g->(∃j:Nat,ids[j]?=some o/\G1[j]?=some g)∨(o∉ids/\o<G.length/\G[o]?=some g)∨(∃j:Nat,ids.length<=j/\o=G.length+(j-ids.length)/\G1[j]?=some g):=fun h=>H7 hnd hGl hGl1 h
 have old:∀{j i:Nat} {g:Gh} {b:Nat},ids[j]?=some i->G1[j]?=some g->g.blk=some b->(∃g0,G[i]?=some g0/\g0.blk=some b)∨w.heap.size<=b:=by
  intro j i g b hj hg hb;have hjl:=(List.getElem?_eq_some_iff.1 hj).1;have hgs:Gs[j]?=some Gs[j]:=getElem?_eq_getElem (by rw[hGsl];exact hjl)
  rcases hX1.gold j _ g b hgs hg hb with h|h
  .exact .inl ⟨_,by rw[<-hGs j i hj];exact hgs,h⟩
  .exact .inr h
 have fr:∀b,b<w.heap.size->(∀(o:Nat) (g:Gh),o∈ids->G[o]?=some g->g.blk≠some b)->w'.heap[b]?=w.heap[b]?:=fun b hb hn=>hX1.frame b hb fun j g hg=>by
  obtain⟨i,hij,hi⟩:=inv hg;exact hn i g (mem_of_getElem? hij) hi
 have hMk:Mn Kk K1 w.heap w'.heap:=⟨hX1.k,fun b hb=>fr b (hS.kb b hb) fun o g _ hg e=>(hS.gb o g b hg e).2 hb⟩
 have same:∀{j i:Nat},ids[j]?=some i->(dT H i).kept=true->G1[j]?=G[i]?:=by
  intro j i hj hkt;obtain⟨x,hx,hrn⟩:=hXg j i hj;have hk:dG (kinds X) j=true:=Nd hx (by rw[M2 hrn];exact hkt);have hjl:=(List.getElem?_eq_some_iff.1 hj).1;have hgs:Gs[j]?=some Gs[j]:=getElem?_eq_getElem (by rw[hGsl];exact hjl);rw[hX1.gsame j _ hk hgs,<-hGs j i hj,hgs]
 have hMg:Mg (fT ids H) G G2:=by
  intro o g ho hg;have hol:=(List.getElem?_eq_some_iff.1 hg).1
  by_cases hin:o∈ids
  .obtain⟨j,hj⟩:=getElem?_of_mem hin
   show(eo G ids G1)[o]?=_
   rw[Ao hnd hGl hGl1 hj,same hj ?_]
   .exact hg
   .simpa [fT,hin]using ho
  .show(eo G ids G1)[o]?=_
   rw[Cd hin hol];exact hg
 let H2:=eo (gh (fT ids H) H) ids (gr ids H.length X')
 have hHl:∀i∈ids,i<(gh (fT ids H) H).length:=fun i hi=>by rw[jQ,length_map];exact hlt i hi
 have hS2:St K1 G2 H2 w':=by
  refine⟨?_,hS1.kb,fun o g b hg hb=>?_,fun o o' g g' b hg hg' hb hb'=>?_,fun o g x hg hx=>?_,hS1.tb⟩
  .show(eo G ids G1).length=(eo (gh (fT ids H) H) ids (gr ids H.length X')).length
   rw[AC hGl1,AC (by rw[qd];exact hXl1),jQ,length_map,qd,hS.len,hS1.len]
  .rcases g2cases hg with⟨j,_,h⟩|⟨ho,hol,h⟩|⟨j,_,_,h⟩
   .exact hS1.gb j g b h hb
   .have:=hS.gb o g b h hb
    refine⟨Nat.lt_of_lt_of_le this.1 hX1.size,fun hk=>?_⟩
    rcases hX1.knew b hk with h'|h'
    .exact this.2 h'
    .omega
   .exact hS1.gb j g b h hb
  .have sep:∀{o o':Nat} {g g':Gh} {b j:Nat},o∉ids->G[o]?=some g->g.blk=some b->G1[j]?=some g'->g'.blk=some b->((∃i,ids[j]?=some i)∨ids.length<=j)->False:=by
    intro o o' g g' b j ho h hb h' hb' hj;have hbs:=(hS.gb o g b h hb).1
    rcases hj with⟨i,hj⟩|hj
    .rcases old hj h' hb' with⟨g0,h0,hb0⟩|h0
     .have:=hS.inj o i g g0 b h h0 hb hb0
      subst this;exact ho (mem_of_getElem? hj)
     .omega
    .have:=hX1.gnew j g' b (by rw[hGsl];exact hj) h' hb'
     omega
   rcases g2cases hg with⟨j,hj,h⟩|⟨ho,hol,h⟩|⟨j,hj,ho,h⟩ <;> rcases g2cases hg' with⟨j',hj',h'⟩|⟨ho',hol',h'⟩|⟨j',hj',ho',h'⟩
   .obtain rfl:=hS1.inj j j' g g' b h h' hb hb'
    rw[hj]at hj';cases hj';rfl
   .exact(sep (o':=0) ho' h' hb' h hb (.inl ⟨_,hj⟩)).elim
   .obtain rfl:=hS1.inj j j' g g' b h h' hb hb'
    have:=(List.getElem?_eq_some_iff.1 hj).1;omega
   .exact(sep (o':=0) ho h hb h' hb' (.inl ⟨_,hj'⟩)).elim
   .exact hS.inj o o' g g' b h h' hb hb'
   .exact(sep (o':=0) ho h hb h' hb' (.inr hj')).elim
   .obtain rfl:=hS1.inj j j' g g' b h h' hb hb'
    have:=(List.getElem?_eq_some_iff.1 hj').1;omega
   .exact(sep (o':=0) ho' h' hb' h hb (.inr hj)).elim
   .obtain rfl:=hS1.inj j j' g g' b h h' hb hb'
    omega
  .have hcx:=H7 hnd hHl (by rw[qd];exact hXl1) hx
   have hlenE:(gh (fT ids H) H).length=G.length:=by rw[jQ,length_map,hS.len]
   have new:∀{j:Nat},G1[j]?=some g->(gr ids H.length X')[j]?=some x->ObR K1 w'.heap G2 g x:=by
    intro j h1 h2;rw[Ds]at h2
    cases hy:X'[j]? with
    |none=>rw[hy]at h2;cases h2
    |some y =>
     rw[hy]at h2;simp at h2;subst h2;exact xX g2new (hS1.ob j g y h1 hy)
   rcases g2cases hg with⟨j,hj,h⟩|⟨ho,hol,h⟩|⟨j,hj,ho,h⟩
   .rcases hcx with⟨j',hj',h'⟩|⟨ho',_,_⟩|⟨j',hj',ho',h'⟩
    .have:=(getElem?_inj (List.getElem?_eq_some_iff.1 hj).1 hnd).1 (hj.trans hj'.symm)
     subst this;exact new h h'
    .exact absurd (mem_of_getElem? hj) ho'
    .have:=hGl o (mem_of_getElem? hj)
     omega
   .rcases hcx with⟨j',hj',h'⟩|⟨ho',_,h'⟩|⟨j',hj',ho',h'⟩
    .exact absurd (mem_of_getElem? hj') ho
    .rw[jQ,getElem?_map]at h'
     cases hy:H[o]? with
     |none=>rw[hy]at h';cases h'
     |some y =>
      rw[hy]at h';simp at h';subst h';refine ObR.prune hMk hMg (fun b hb=>fr b (hS.gb o g b h hb).1 fun i g' hi hg' e=>?_) (hS.ob o g y h hy);have:=hS.inj o i g g' b h hg' hb e;subst this;exact ho hi
    .omega
   .rcases hcx with⟨j',hj',h'⟩|⟨ho',hol',_⟩|⟨j',hj',ho',h'⟩
    .have:=hlt o (mem_of_getElem? hj')
     rw[<-hS.len]at this;omega
    .omega
    .have:j=j':=by omega
     subst this;exact new h h'
 have hX2:Ext (dG kl) B.K0 B.G0 B.w0 K1 G2 w':=by
  refine hX.trans ⟨hX1.os,hX1.tape,hX1.output,hX1.size,hX1.k,hX1.knew,?_,fun o g0 g b h0 hg hb=>?_,fun o g b ho hg hb=>?_,fun o g0 ho h0=>?_,fun b hb hn=>fr b hb fun o g _ hg=>hn o g hg⟩
  .show G.length<=(eo G ids G1).length
   rw[AC hGl1];omega
  .rcases g2cases hg with⟨j,hj,h⟩|⟨_,_,h⟩|⟨j,hj,ho,h⟩
   .rcases old hj h hb with⟨g0',h0',hb0⟩|h'
    .rw[h0]at h0';cases h0';exact .inl hb0
    .exact .inr h'
   .rw[h0]at h;cases h;exact .inl hb
   .have:=(List.getElem?_eq_some_iff.1 h0).1
    omega
  .rcases g2cases hg with⟨j,hj,h⟩|⟨_,hol,h⟩|⟨j,hj,_,h⟩
   .have:=hGl o (mem_of_getElem? hj)
    omega
   .omega
   .exact hX1.gnew j g b (by rw[hGsl];exact hj) h hb
  .refine hMg o g0 ?_ h0
   obtain⟨x,hx,hkt⟩:=hkp o ho
   have:(dT H o).kept=true:=by rw[FR hx];exact hkt
   simp[fT,this]
 have hRV:RelV (cx P kl n B) (ik (fT ids H) E) H2 c' (ew ids H.length r) a w':=by
  refine⟨K1,G2,hX2,hS2,fun m=>by rw[Ay];exact VR.prune hMk hMg _ _ (hE m),hdf,hn,fun o ho=>?_,ri g2new hv⟩;obtain⟨x,hx,hkt⟩:=hkp o ho;have hol:=(List.getElem?_eq_some_iff.1 hx).1
  by_cases hin:o∈ids
  .obtain⟨j,hj⟩:=getElem?_of_mem hin
   obtain⟨y,hy,hrn⟩:=hXg j o hj;have hk:dG (kinds X) j=true:=Nd hy (by rw[M2 hrn,FR hx];exact hkt);obtain⟨y',hy',hkt'⟩:=hkp1 j hk;refine⟨BP ids H.length y',?_,by rw[pf];exact hkt'⟩
   show(eo _ ids _)[o]?=_
   rw[Ao hnd hHl (by rw[qd];exact hXl1) hj,Ds,hy'];rfl
  .refine⟨x.prune (fT ids H),?_,by cases x <;> first|rfl|cases hkt⟩
   show(eo _ ids _)[o]?=_
   rw[Cd hin (by rw[jQ,length_map];exact hol),jQ,getElem?_map,hx];rfl
 exact hK' c' r X' w' hpost hv.ok hRV
theorem db{o:Oper}{l:List Oper}{f:FuncId}{av args:List Va}{X:List Ob}{Post:Va->List Ob->Prop}(ids:List Nat)(hs:Does P f args X Post)(ha:Is (As E o) (some (f,av)))(hp:Is (jX ids av) (some args))(hXs:Is (jq ids H ids) (some X))(hids:j0 H.length ids=true)(hok:iP n true E o)
  (cont:∀r X',Post r X'->r.ok->eU P kl n B ops K (eM P kl n ops.toList l ⟨dV (ik (fT ids H) E) o.dst (ew ids H.length r),eo (gh (fT ids H) H) ids (gr ids H.length X'),True⟩)):Rg P kl n B ops (o::l) E H K:=by
 obtain⟨c,fop,caps,e1,e2,e3,e4,rfl⟩:=OJ ha;obtain⟨hd,hk⟩:=u1 hok e1 e3;intro hB a w Q hR hKK
 refine wpList_plain e2 fun K' hK'=>?_
 exact HD ids hs e1 e3 hk e4 hp hXs hids hR fun c' r X' w' h1 h2 h3=>hK' _ _ (Rg.run (cont r X' h1 h2) hB _ _ _ (h3.put o.dst (zZ hd)) hKK)
end
mutual
def kP(o:Nat)(r:Nat×List (List Dt)):Va->Va
 |.buf i=>if i=o then .p (.l r.2)else .buf i
 |.el i s j a=>if i=o then .top else .el i s j a
 |.ptr i a=>if i=o then .top else .ptr i a
 |.cs i a=>if i=o then .top else .cs i a
 |.mp i=>if i=o then .top else .mp i
 |.np i=>if i=o then .top else .np i
 |.sd i=>if i=o then .top else .sd i
 |.vw i s j n=>if i=o then(if s=r.1 then .p (.l ((r.2.drop j).take n))else .top)else .vw i s j n
 |.bufc i s=>if i=o then .top else .bufc i s
 |.fn f vs=>.fn f (mh o r vs)
 |.agg vs=>.agg (mh o r vs)
 |.tup vs=>.tup (mh o r vs)
 |.cnd c v=>if v.all (· != o)then .cnd c v else .top
 |v=>v
def mh(o:Nat)(r:Nat×List (List Dt)):List Va->List Va
 |[]=>[]
 |v::vs=>kP o r v::mh o r vs
end
def uc(o:Nat)(r:Nat×List (List Dt)):dz->dz
 |[]=>[]
 |(k,v)::E=>(k,kP o r v)::uc o r E
def xj(o:Nat)(r:Nat×List (List Dt)):Ob->Ob
 |.cells T vs=>.cells T (mh o r vs)
 |.it i cl s=>if i=o then .gone else .it i cl s
 |x=>x
def mj(o:Nat)(r:Nat×List (List Dt)):List Ob->List Ob
 |[]=>[]
 |x::H=>xj o r x::mj o r H
theorem oA(o:Nat)(r:Nat×List (List Dt)):∀(E:dz) (m:Nat),ei (uc o r E) m=kP o r (ei E m)
 |[],m=>by simp[uc,ei,kP]
 |(k,v)::E,m=>by
  simp only[uc,ei];split
  .rfl
  .exact oA o r E m
theorem Nx(o:Nat)(r:Nat×List (List Dt)):∀(H:List Ob) (m:Nat),(mj o r H)[m]?=(H[m]?).map (xj o r)
 |[],m=>by simp[mj]
 |x::H,0=>by simp[mj]
 |x::H,m+1=>by simp only[mj,getElem?_cons_succ];exact Nx o r H m
theorem Ox(o:Nat)(r:Nat×List (List Dt)):∀H:List Ob,(mj o r H).length=H.length
 |[]=>rfl
 |x::H=>by simp[mj,Ox o r H]
theorem NI{K:Nat->Prop}{h:Array Obj}{sz:Nat}:∀{a:Nat} {xs:List Value} {rs:List (List Dt)},DRss K h sz xs rs->DRss K h sz (xs.drop (a*sz)) (rs.drop a)
 |0,_,_,hd=>by simpa using hd
 |a+1,xs,[],hd=>by simp only[DRss]at hd;subst hd;simp[DRss]
 |a+1,xs,r::rs,hd=>by
  simp only[DRss]at hd;obtain⟨u,v,rfl,h1,h2,h3⟩:=hd;have hl:=h2.length;rw[drop_succ_cons,Nat.add_mul,Nat.one_mul,Nat.add_comm,<-drop_drop,show sz=u.length by rw[hl,h1],drop_left];have:=NI (a:=a) h3
  rwa [show u.length=sz by rw[hl,h1]]
theorem ln{K:Nat->Prop}{h:Array Obj}{sz:Nat}:∀{n:Nat} {xs:List Value} {rs:List (List Dt)},DRss K h sz xs rs->DRss K h sz (xs.take ((rs.take n).length*sz)) (rs.take n)
 |0,_,_,hd=>by simp[DRss]
 |n+1,xs,[],hd=>by simp[DRss]
 |n+1,xs,r::rs,hd=>by
  simp only[DRss]at hd;obtain⟨u,v,rfl,h1,h2,h3⟩:=hd;have hl:=h2.length;simp only[take_succ_cons,length_cons,DRss];refine⟨u,v.take ((rs.take n).length*sz),?_,h1,h2,ln h3⟩;rw[Nat.add_mul,Nat.one_mul,Nat.add_comm,take_append,take_of_length_le (by omega)]
  congr 2
  omega
theorem D8{K:Nat->Prop}{h:Array Obj}{c:Value}{blk:Option Nat}{ad:Option Addr}{N cap sz a n:Nat}{r:List (List Dt)}(hd:DR K h (.slice ad N cap) (.l r))(hz:∀x∈r,x.length=sz)(hv:Pm c blk ad N cap sz a n):DR K h c (.l ((r.drop a).take n)):=by
 obtain⟨hle,ad',cap',rfl,hcap,hcc,hpos⟩:=hv;simp only[DR]at hd|-
 rcases hd with⟨⟨_,h0⟩,rfl⟩|⟨b,off,cp,cs,T,fr,sz',vs,h1,h2,h3,h4,h5,h6,h7⟩
 .cases h0
  obtain rfl:n=0:=by omega
  obtain rfl:a=0:=by omega
  obtain rfl:cap'=0:=by omega
  exact .inl ⟨⟨ad',rfl⟩,by simp⟩
 .cases h1
  rcases Nat.eq_zero_or_pos cap' with rfl|hn
  .obtain rfl:n=0:=by omega
   exact .inl ⟨⟨ad',rfl⟩,by simp⟩
  .obtain⟨b',_,hb,rfl⟩:=hpos hn
   have hbo:b=b'/\off=0:=by injection hb with hb;injection hb with e1 e2 _;exact⟨e1,e2⟩
   obtain⟨rfl,rfl⟩:=hbo
   have hsz:r=[]∨sz'=sz:=by
    cases r with
    |nil=>exact .inl rfl
    |cons x r =>
     simp only[DRss]at h7;obtain⟨_,_,_,h8,_⟩:=h7;exact .inr (by rw[<-h8];exact hz x (by simp))
   rcases hsz with rfl|rfl
   .obtain rfl:n=0:=by simp at hle;omega
    exact .inr ⟨b,a*sz,cap',cs,T,fr,sz',[],by simp,h2,h3,by simp,by simp,by simp,by simp[DRss]⟩
   have hlen:((r.drop a).take n).length=n:=by rw[length_take,length_drop];omega
   refine .inr ⟨b,a*sz',cap',cs,T,fr,sz',(vs.drop (a*sz')).take (n*sz'),by rw[hlen],h2,h3,by omega,by omega,fun j v hj=>?_,?_⟩
   .rw[getElem?_take]at hj
    split at hj
    .rw[getElem?_drop]at hj
     have:=h6 _ _ hj
     rwa [Nat.zero_add]at this
    .cases hj
   .have:=ln (n:=n) (NI (a:=a) h7)
    rwa [hlen]at this
section
variable {K K':Nat->Prop} {h:Array Obj} {G G':List Gh} {o:Nat} {r:Nat×List (List Dt)}
mutual
theorem xi(hM:∀b,K b->K' b)(hG:Mg (· != o) G G')(ho:∀g,G[o]?=some g->DR K' h g.sv (.l r.2))(hz:∀x∈r.2,x.length=r.1):∀{c:Value} {v:Va},VR K h G c v->VR K' h G' c (kP o r v)
 |c,.p x,hv=>VR.keep (f:=(· != o)) ⟨hM,fun _ _=>rfl⟩ hG c (.p x) rfl hv
 |c,.nils,hv=>VR.keep (f:=(· != o)) ⟨hM,fun _ _=>rfl⟩ hG c .nils rfl hv
 |c,.full rows,hv=>VR.keep (f:=(· != o)) ⟨hM,fun _ _=>rfl⟩ hG c (.full rows) rfl hv
 |c,.rp row,hv=>VR.keep (f:=(· != o)) ⟨hM,fun _ _=>rfl⟩ hG c (.rp row) rfl hv
 |c,.nil,hv=>VR.keep (f:=(· != o)) ⟨hM,fun _ _=>rfl⟩ hG c .nil rfl hv
 |c,.raw v,hv=>VR.keep (f:=(· != o)) ⟨hM,fun _ _=>rfl⟩ hG c (.raw v) rfl hv
 |c,.er v,hv=>VR.keep (f:=(· != o)) ⟨hM,fun _ _=>rfl⟩ hG c (.er v) rfl hv
 |c,.top,_=>by simp[kP,VR]
 |c,.buf i,hv=>by
  simp only[kP];split
  .rename_i e
   subst e;simp only[VR]at *;obtain⟨g,hg,rfl,_⟩:=hv;exact ho g hg
  .rename_i e
   exact VR.keep (f:=(· != o)) ⟨hM,fun _ _=>rfl⟩ hG c (.buf i) (by simpa [Va.all]using e) hv
 |c,.el i s j a,hv=>by
  simp only[kP];split
  .simp[VR]
  .rename_i e
   exact VR.keep (f:=(· != o)) ⟨hM,fun _ _=>rfl⟩ hG c (.el i s j a) (by simpa [Va.all]using e) hv
 |c,.ptr i a,hv=>by
  simp only[kP];split
  .simp[VR]
  .rename_i e
   exact VR.keep (f:=(· != o)) ⟨hM,fun _ _=>rfl⟩ hG c (.ptr i a) (by simpa [Va.all]using e) hv
 |c,.cs i a,hv=>by
  simp only[kP];split
  .simp[VR]
  .rename_i e
   exact VR.keep (f:=(· != o)) ⟨hM,fun _ _=>rfl⟩ hG c (.cs i a) (by simpa [Va.all]using e) hv
 |c,.mp i,hv=>by
  simp only[kP];split
  .simp[VR]
  .rename_i e
   exact VR.keep (f:=(· != o)) ⟨hM,fun _ _=>rfl⟩ hG c (.mp i) (by simpa [Va.all]using e) hv
 |c,.np i,hv=>by
  simp only[kP];split
  .simp[VR]
  .rename_i e
   exact VR.keep (f:=(· != o)) ⟨hM,fun _ _=>rfl⟩ hG c (.np i) (by simpa [Va.all]using e) hv
 |c,.sd i,hv=>by
  simp only[kP];split
  .simp[VR]
  .rename_i e
   exact VR.keep (f:=(· != o)) ⟨hM,fun _ _=>rfl⟩ hG c (.sd i) (by simpa [Va.all]using e) hv
 |c,.vw i s j n,hv=>by
  simp only[kP];split
  .rename_i e
   subst e;split
   .rename_i e2
    subst e2;simp only[VR]at hv|-;obtain⟨g,ad,N,cap,hg,hsv,hvw⟩:=hv;exact D8 (hsv ▸ ho g hg) hz hvw
   .simp[VR]
  .rename_i e
   exact VR.keep (f:=(· != o)) ⟨hM,fun _ _=>rfl⟩ hG c (.vw i s j n) (by simpa [Va.all]using e) hv
 |c,.bufc i s,hv=>by
  simp only[kP];split
  .simp[VR]
  .rename_i e
   exact VR.keep (f:=(· != o)) ⟨hM,fun _ _=>rfl⟩ hG c (.bufc i s) (by simpa [Va.all]using e) hv
 |c,.fn f vs,hv=>by simp only[kP,VR]at *;obtain⟨cs,h1,h2⟩:=hv;exact⟨cs,h1,Hg hM hG ho hz h2⟩
 |c,.agg vs,hv=>by simp only[kP,VR]at *;obtain⟨cs,h1,h2⟩:=hv;exact⟨cs,h1,Hg hM hG ho hz h2⟩
 |c,.tup vs,hv=>by simp only[kP,VR]at *;obtain⟨cs,h1,h2⟩:=hv;exact⟨cs,h1,Hg hM hG ho hz h2⟩
 |c,.cnd b v,hv=>by
  simp only[kP];split
  .rename_i e
   exact VR.keep (f:=(· != o)) ⟨hM,fun _ _=>rfl⟩ hG c (.cnd b v) (by simpa only[Va.all]using e) hv
  .simp[VR]
theorem Hg(hM:∀b,K b->K' b)(hG:Mg (· != o) G G')(ho:∀g,G[o]?=some g->DR K' h g.sv (.l r.2))(hz:∀x∈r.2,x.length=r.1):∀{cs:List Value} {vs:List Va},VRs K h G cs vs->VRs K' h G' cs (mh o r vs)
 |cs,[],hv=>by simpa only[mh,VRs]using hv
 |cs,v::vs,hv=>by
  simp only[mh,VRs]at *;obtain⟨c,cs',e1,e2,e3⟩:=hv;exact⟨c,cs',e1,xi hM hG ho hz e2,Hg hM hG ho hz e3⟩
end
end
section
variable {P:Program} {kl:List Bool} {n:Nat} {B:Bs} {Q:Qt} {E:dz} {H:List Ob}
theorem Wp.freeze{c:Code}(o:Nat){T:TypeId}{sz:Nat}{rows:List (List Dt)}(ho:Is (dT H o) (.buf T sz rows))(hk:kl.length<=o)(hc:Wp P kl n B c Q (uc o (sz,rows) E) ((mj o (sz,rows) H).set o .gone)):Wp P kl n B c Q E H:=by
 intro hB a w hR;obtain⟨K,G,hX,hS,hE,hd,hn,hkp⟩:=hR;have hoH:=zJ ho (by simp);obtain⟨g,hg,_⟩:=hS.ghost hoH;have hol:=(List.getElem?_eq_some_iff.1 hg).1
 let K':Nat->Prop:=fun b=>K b∨g.blk=some b
 let G':=G.set o ⟨none,g.sv⟩
 have hM:∀b,K b->K' b:=fun _ h=>.inl h
 have hMg:Mg (· != o) G G':=fun i g' hi hg'=>by
  show(G.set o _)[i]?=_
  rw[getElem?_set_ne (by simpa using Ne.symm (by simpa using hi))];exact hg'
 have hdr:∀g',G[o]?=some g'->DR K' w.heap g'.sv (.l rows):=fun g' hg'=>by
  rw[hg]at hg';cases hg'
  exact mD hS hoH hg hM fun b hb=>.inr hb
 have hzz:∀x∈(sz,rows).2,x.length=(sz,rows).1:=by
  obtain⟨_,xs,hxs,_⟩:=hS.ob o g _ hg hoH;exact MT hxs
 have get':∀{i:Nat} {g':Gh},G'[i]?=some g'->(i=o/\g'=⟨none,g.sv⟩)∨(i≠o/\G[i]?=some g'):=by
  intro i g' hg'
  by_cases e:i=o
  .subst e
   rw[show G'[i]?=some ⟨none,g.sv⟩from getElem?_set_self hol]at hg'
   cases hg';exact .inl ⟨rfl,rfl⟩
  .rw[show G'[i]?=G[i]? from getElem?_set_ne (Ne.symm e)]at hg'
   exact .inr ⟨e,hg'⟩
 have hG0:B.G0.length<=o:=by rw[hB];exact hk
 refine hc hB a w ⟨K',G',{ hX with k:=fun b hb=>.inl (hX.k b hb),knew:=fun b hb=>?_,glen:=?_,gold:=fun i g0 g' b h0 hg' hb=>?_,gnew:=fun i g' b hi hg' hb=>?_,gsame:=fun i g0 hi h0=>?_ },⟨?_,fun b hb=>?_,fun i g' b hg' hb=>?_,fun i j g' g'' b hg' hg'' hb hb'=>?_,fun i g' y hg' hy=>?_,hS.tb.mono ⟨fun _ h=>.inl h,fun _ _=>rfl⟩⟩,fun m=>?_,hd,hn,fun i hi=>?_⟩
 .rcases hb with hb|hb
  .exact hX.knew b hb
  .exact .inr (hX.gnew o g b hG0 hg hb)
 .show B.G0.length<=(G.set o _).length
  rw[length_set];exact hX.glen
 .rcases get' hg' with⟨_,rfl⟩|⟨_,h⟩
  .cases hb
  .exact hX.gold i g0 g' b h0 h hb
 .rcases get' hg' with⟨_,rfl⟩|⟨_,h⟩
  .cases hb
  .exact hX.gnew i g' b hi h hb
 .have h1:=hX.gsame i g0 hi h0
  have h2:i<kl.length:=B3 hi
  show(G.set o _)[i]?=_
  rw[getElem?_set_ne (by omega)];exact h1
 .show(G.set o _).length=_
  rw[length_set,length_set,Ox,hS.len]
 .rcases hb with hb|hb
  .exact hS.kb b hb
  .exact(hS.gb o g b hg hb).1
 .rcases get' hg' with⟨_,rfl⟩|⟨e,h⟩
  .cases hb
  .refine⟨(hS.gb i g' b h hb).1,fun hk'=>?_⟩
   rcases hk' with hk'|hk'
   .exact(hS.gb i g' b h hb).2 hk'
   .exact e (hS.inj i o g' g b h hg hb hk')
 .rcases get' hg' with⟨_,rfl⟩|⟨_,h⟩
  .cases hb
  .rcases get' hg'' with⟨_,rfl⟩|⟨_,h'⟩
   .cases hb'
   .exact hS.inj i j g' g'' b h h' hb hb'
 .rcases get' hg' with⟨rfl,rfl⟩|⟨e,h⟩
  .rw[getElem?_set_self (by rw[Ox,<-hS.len];exact hol)]at hy
   cases hy;trivial
  .rw[getElem?_set_ne (Ne.symm e),Nx]at hy
   cases hx:H[i]? with
   |none=>rw[hx]at hy;cases hy
   |some x =>
    rw[hx]at hy;simp at hy;subst hy;have hob:=hS.ob i g' x h hx
    cases x with
    |cells T vs =>
     obtain⟨b,cs,h1,h2,h3⟩:=hob;exact⟨b,cs,h1,h2,Hg hM hMg hdr hzz h3⟩
    |buf T' sz' rows'=>exact ObR.keep ⟨hM,fun _ _=>rfl⟩ (Mg.refl (fun _=>true) G) (fun _ _=>rfl) rfl hob
    |fx T' sz' rows'=>exact ObR.keep ⟨hM,fun _ _=>rfl⟩ (Mg.refl (fun _=>true) G) (fun _ _=>rfl) rfl hob
    |sb T' bs=>exact ObR.keep ⟨hM,fun _ _=>rfl⟩ (Mg.refl (fun _=>true) G) (fun _ _=>rfl) rfl hob
    |mp ag es=>exact ObR.keep ⟨hM,fun _ _=>rfl⟩ (Mg.refl (fun _=>true) G) (fun _ _=>rfl) rfl hob
    |mpb ag es bs cl=>exact ObR.keep ⟨hM,fun _ _=>rfl⟩ (Mg.refl (fun _=>true) G) (fun _ _=>rfl) rfl hob
    |it q cl seen =>
     simp only[xj];split
     .trivial
     .rename_i e;exact ObR.keep ⟨hM,fun _ _=>rfl⟩ hMg (fun _ _=>rfl) (by simpa [Ob.all]using e) hob
    |gone=>trivial
 .rw[oA]
  exact xi hM hMg hdr hzz (hE m)
 .obtain⟨x,hx,hkt⟩:=hkp i hi
  have h2:i<kl.length:=B3 hi;refine⟨xj o (sz,rows) x,?_,by cases x <;> first|rfl|cases hkt⟩;rw[getElem?_set_ne (by omega),Nx,hx];rfl
end
attribute [go_sem] rH fg ip iG jX nE jq jH ew jk BP gr eo j0 fT kP mh uc xj mj
mutual
theorem Fv{ids:List Nat}{base:Nat}:∀{v u:Va},fg ids v=some u->ew ids base u=v
 |.ptr o a,u,h=>by
  simp only[fg]at h;split at h
  .rename_i j hj;cases h;simp only[ew,uQ (lC hj)]
  .cases h
 |.cs o a,u,h=>by
  simp only[fg]at h;split at h
  .rename_i j hj;cases h;simp only[ew,uQ (lC hj)]
  .cases h
 |.el o s i a,u,h=>by
  simp only[fg]at h;split at h
  .rename_i j hj;cases h;simp only[ew,uQ (lC hj)]
  .cases h
 |.buf o,u,h=>by
  simp only[fg]at h;split at h
  .rename_i j hj;cases h;simp only[ew,uQ (lC hj)]
  .cases h
 |.mp o,u,h=>by
  simp only[fg]at h;split at h
  .rename_i j hj;cases h;simp only[ew,uQ (lC hj)]
  .cases h
 |.np o,u,h=>by
  simp only[fg]at h;split at h
  .rename_i j hj;cases h;simp only[ew,uQ (lC hj)]
  .cases h
 |.sd o,u,h=>by
  simp only[fg]at h;split at h
  .rename_i j hj;cases h;simp only[ew,uQ (lC hj)]
  .cases h
 |.vw o _ _ _,u,h=>by
  simp only[fg]at h;split at h
  .rename_i j hj;cases h;simp only[ew,uQ (lC hj)]
  .cases h
 |.bufc o _,u,h=>by
  simp only[fg]at h;split at h
  .rename_i j hj;cases h;simp only[ew,uQ (lC hj)]
  .cases h
 |.fn f vs,u,h=>by
  simp only[fg]at h;split at h
  .rename_i us hu;cases h;simp only[ew,Hm hu]
  .cases h
 |.agg vs,u,h=>by
  simp only[fg]at h;split at h
  .rename_i us hu;cases h;simp only[ew,Hm hu]
  .cases h
 |.tup vs,u,h=>by
  simp only[fg]at h;split at h
  .rename_i us hu;cases h;simp only[ew,Hm hu]
  .cases h
 |.cnd _ _,_,h=>by simp[fg]at h
 |.p x,u,h|.nils,u,h|.full x,u,h|.rp x,u,h|.nil,u,h|.raw x,u,h|.er x,u,h|.top,u,h=>by simp only[fg]at h;cases h;rfl
theorem Hm{ids:List Nat}{base:Nat}:∀{vs us:List Va},ip ids vs=some us->jk ids base us=vs
 |[],us,h=>by simp only[ip]at h;cases h;rfl
 |v::vs,us,h=>by
  simp only[ip]at h;split at h
  .rename_i u us' h1 h2
   cases h;simp only[jk,Fv h1,Hm h2]
  .cases h
end
theorem xW{ids:List Nat}{base:Nat}{x y:Ob}(h:nE ids x=some y):BP ids base y=x:=by
 cases x with
 |cells T vs =>
  simp only[nE]at h;split at h
  .rename_i us hu;cases h;simp only[BP,Hm hu]
  .cases h
 |it _ _ _=>simp[nE]at h
 |_=>simp only[nE]at h;cases h;rfl
mutual
theorem P3:∀v:Va,v.prune (fun _=>true)=v
 |.ptr _ _|.cs _ _|.el _ _ _ _|.buf _|.mp _|.np _|.sd _|.vw _ _ _ _|.bufc _ _=>by simp[Va.prune]
 |.fn f vs=>by simp only[Va.prune,Ik vs]
 |.agg vs=>by simp only[Va.prune,Ik vs]
 |.tup vs=>by simp only[Va.prune,Ik vs]
 |.cnd c v=>by simp only[Va.prune,Va.all_true,if_true]
 |.p _|.nils|.full _|.rp _|.nil|.raw _|.er _|.top=>rfl
theorem Ik:∀vs:List Va,cf (fun _=>true) vs=vs
 |[]=>rfl
 |v::vs=>by simp only[cf,P3 v,Ik vs]
end
theorem Oz:∀E:dz,ik (fun _=>true) E=E
 |[]=>rfl
 |(k,v)::E=>by simp only[ik,P3,Oz E]
theorem OA:∀H:List Ob,gh (fun _=>true) H=H
 |[]=>rfl
 |x::H=>by simp only[gh,OA H];cases x <;> simp only[Ob.prune,Ik,if_true]
def vr(H:List Ob):List Nat->Bool
 |[]=>true
 |i::ids=>(dT H i).kept&&vr H ids
theorem Qk{H:List Ob}{ids:List Nat}(h:vr H ids=true):fT ids H=fun _=>true:=by
 funext o
 simp only[fT]
 by_cases ho:o∈ids
 .have:(dT H o).kept=true:=by
   induction ids with
   |nil=>cases ho
   |cons i ids ih =>
    simp only[vr,Bool.and_eq_true]at h
    rcases mem_cons.1 ho with rfl|ho
    .exact h.1
    .exact ih h.2 ho
  simp[this]
 .simp[ho]
theorem vS{H X:List Ob}{ids:List Nat}{base:Nat}(hX:jq ids H ids=some X)(hids:j0 H.length ids=true):eo H ids (gr ids base X)=H:=by
 obtain⟨hnd,hlt⟩:=H6 hids;obtain⟨hl,hg⟩:=F5 hX;apply ext_getElem?;intro o
 by_cases ho:o∈ids
 .obtain⟨j,hj⟩:=getElem?_of_mem ho
  rw[Ao hnd hlt (by rw[qd];omega) hj,Ds];obtain⟨x,hx,hr⟩:=hg j o hj;rw[hx];simp only[Option.map_some,xW hr];have hol:=hlt o ho;rw[getElem?_eq_getElem hol,FR (getElem?_eq_getElem hol)]
 .rcases Nat.lt_or_ge o H.length with h|h
  .exact Cd ho h
  .rw[getElem?_eq_none h,getElem?_eq_none]
   rw[AC (by rw[qd];omega),qd];omega
section
variable {P:Program} {kl:List Bool} {n:Nat} {B:Bs} {K:dz->List Ob->Prop} {E:dz} {H:List Ob}
theorem Lz{o:Oper}{c:Call}{fop:Operand}{f:FuncId}{caps args:List Va}{X:List Ob}{v:Va}(ids:List Nat)(hs:Does P f args X fun r X'=>r=v/\X'=X)(ho:o.op=.call c)(hc:c.callee=.value fop)(hok:opOk true E fop/\allOk true E c.args.toList)(hf:opnd E fop=.fn f caps)
  (hp:jX ids (opnds E c.args.toList++caps)=some args) (hXs:jq ids H ids=some X) (hids:j0 H.length ids=true) (hkp:vr H ids=true) {a:Act} {w:World} {Q:Exit->Act->World->Prop} {K':Act->World->Prop} (hR:Rel (cx P kl n B) E H a w)
  (hK':∀c' w',v.ok->RelV (cx P kl n B) E H c' (ew ids H.length v) a w'->K' (a.put o.dst c') w'):o.wp P a w K' Q:=by
 refine HD ids hs ho hc hok hf hp hXs hids hR fun c' r X' w' ⟨hr,hX⟩ hv hRV=>?_
 subst hr;subst hX
 rw[Qk hkp,Oz,OA,vS hXs hids]at hRV;exact hK' c' w' hv hRV
theorem Rg.callR{ops:Array Oper}{o:Oper}{l:List Oper}{f:FuncId}{av args:List Va}{X:List Ob}{g:Bool}{v:Va}(ids:List Nat)(hs:g=true->Does P f args X fun r X'=>r=v/\X'=X)(ha:Is (iE E o) (some (f,av)))(hb:Is (iR ops.toList E o) (some g))(hp:Is (jX ids av) (some args))(hXs:Is (jq ids H ids) (some X))(hids:j0 H.length ids=true)(hkp:vr H ids=true)(hok:iP n g E o)
  (cont:eU P kl n B ops K (eM P kl n ops.toList l ⟨dV E o.dst (iz o.guard g (ew ids H.length v)),H,True⟩)):Rg P kl n B ops (o::l) E H K:=by
 unfold Is iE at ha;unfold Is iR at hb;split at ha
 rotate_left
 .cases ha
 rename_i c h1
 split at ha
 rotate_left
 .cases ha
 rename_i fop h3
 split at ha
 rotate_left
 .cases ha
 rename_i f' caps h4
 cases ha;obtain⟨hd,hk⟩:=u1 hok h1 h3;have hrun:=Rg.run cont;intro hB a w Q hR hKK
 cases hg:o.guard with
 |none =>
  rw[hg]at hb;obtain rfl:true=g:=Option.some.inj hb
  refine wpList_plain hg fun K' hK'=>?_
  rw[AB hg]at hrun
  exact Lz ids (hs rfl) h1 h3 hk h4 hp hXs hids hkp hR fun c' w' _ hRV=>hK' _ _ (hrun hB _ _ _ (hRV.put o.dst (zZ hd)) hKK)
 |some gw =>
  obtain⟨j,want⟩:=gw;rw[hg]at hb;have hw:=sZ hR hg hb;rw[vz hg]at hrun
  refine wpList_step fun K' hK'=>?_
  cases g with
  |true =>
   rw[if_pos hw]
   exact Lz ids (hs rfl) h1 h3 hk h4 hp hXs hids hkp hR fun c' w' _ hRV=>hK' _ _ (hrun hB _ _ _ (RelV.put (v:=.cnd true _) (by
    obtain⟨Kk,G,q1,q2,q3,q4,q5,q6,q7⟩:=hRV
    exact⟨Kk,G,q1,q2,q3,q4,q5,q6,by simp only[VR];exact⟨fun _=>q7,fun e=>Bool.noConfusion e⟩⟩) o.dst (zZ hd)) hKK)
  |false =>
   rw[if_neg (by rw[hw];simp)];obtain⟨Kk,G,hX,hS,hE,hdf,hn,hkp'⟩:=hR;exact hK' _ _ (hrun hB _ _ _ (RelV.put (C:=cx P kl n B) (v:=.cnd false _) ⟨Kk,G,hX,hS,hE,hdf,hn,hkp',by simp[VR]⟩ o.dst (zZ hd)) hKK)
end
section
variable {P:Program} {kl:List Bool} {n:Nat} {B:Bs} {ops:List Oper} {K:dz->List Ob->Prop} {l:Plan} {obs:List En} {E:dz} {H:List Ob}
theorem df{k:Nat}{L:List Nat}{f:FuncId}{av args:List Va}{X Y:List Ob}{o:Oper}{v:Va}(ids:List Nat)(hs:Does P f args X fun r X'=>r=v/\X'=Y)(hk:Is ops[k]? (some o))(hg:Is o.guard none)(ha:Is (iE E o) (some (f,av)))(hp:Is (jX ids av) (some args))(hXs:Is (jq ids H ids) (some X))(hids:j0 H.length ids=true)(hkp:vr H ids=true)(hok:iP n true E o)
  (hag:vu L none (eo H ids (gr ids H.length Y)) obs)
  (cont:mY P kl n B ops.toArray K (zkT P kl n ops l ⟨obs,dV E o.dst (ew ids H.length v),eo H ids (gr ids H.length Y),True⟩)):Br P kl n B ops.toArray k L l obs E H K:=by
 unfold Is at *;unfold iE at ha;split at ha
 rotate_left
 .cases ha
 rename_i c h1
 split at ha
 rotate_left
 .cases ha
 rename_i fop h3
 split at ha
 rotate_left
 .cases ha
 rename_i f' caps h4
 cases ha;obtain⟨hd,hk1,hk2⟩:=u1 hok h1 h3;have h':=Dr.run cont;simp only at h';rw[<-mZ hk]at h';refine Br.eff (po:=none) (fun _=>?_) hag h';intro E' hE' a w Q K' hR hK;have hop:=Cb (jo hk) hE';rw[h1]at hop;have hfo:ed E fop=ed E' fop:=hop fop (by simp[Op.operands,Call.operands,h3])
 have hag':Agree c.args.toList E E':=fun x hx=>hop x (by simp only[Op.operands,Call.operands,Array.toList_append,mem_append];exact .inr hx)
 rw[Agree.opOk hfo]at hk1;rw[Agree.allOk hag']at hk2;rw[Agree.opnd hfo]at h4;rw[Agree.opnds hag']at hp;rw[mZ hk]at hK;unfold wpOp;simp only[jo hk];rw[if_pos (by simp[Region.wanted,hg])];refine .inl (HD ids hs h1 h3 ⟨hk1,hk2⟩ h4 hp hXs hids hR fun c' r X' w' ⟨hr,hX⟩ _ hRV=>?_)
 subst hr;subst hX
 rw[Qk hkp,Oz,OA]at hRV;exact hK _ _ (hRV.put o.dst (zZ hd))
theorem Br.callR{k:Nat}{L:List Nat}{f:FuncId}{av args:List Va}{X:List Ob}{g:Bool}{o:Oper}{v:Va}(ids:List Nat)(hs:g=true->Does P f args X fun r X'=>r=v/\X'=X)(hk:Is ops[k]? (some o))(ha:Is (iE E o) (some (f,av)))(hb:Is (iR ops E o) (some g))(hp:Is (jX ids av) (some args))(hXs:Is (jq ids H ids) (some X))(hids:j0 H.length ids=true)(hkp:vr H ids=true)(hok:iP n g E o)
  (hag:vu L none H obs)
  (cont:mY P kl n B ops.toArray K (zkT P kl n ops l ⟨obs,dV E o.dst (iz o.guard g (ew ids H.length v)),H,True⟩)):Br P kl n B ops.toArray k L l obs E H K:=by
 unfold Is at *;unfold iE at ha;split at ha
 rotate_left
 .cases ha
 rename_i c h1
 split at ha
 rotate_left
 .cases ha
 rename_i fop h3
 split at ha
 rotate_left
 .cases ha
 rename_i f' caps h4
 cases ha;obtain⟨hd,hk1,hk2⟩:=u1 hok h1 h3;have h':=Dr.run cont;simp only at h';rw[<-mZ hk]at h';refine Br.eff (po:=none) (fun _=>?_) hag h';intro E' hE' a w Q K' hR hK;have hop:=Cb (jo hk) hE';rw[h1]at hop;have hfo:ed E fop=ed E' fop:=hop fop (by simp[Op.operands,Call.operands,h3])
 have hag':Agree c.args.toList E E':=fun x hx=>hop x (by simp only[Op.operands,Call.operands,Array.toList_append,mem_append];exact .inr hx)
 rw[Agree.opOk hfo]at hk1;rw[Agree.allOk hag']at hk2;rw[Agree.opnd hfo]at h4;rw[Agree.opnds hag']at hp;rw[mZ hk]at hK;unfold wpOp;simp only[jo hk];unfold iR at hb
 cases hgd:o.guard with
 |none =>
  rw[hgd]at hb hK;obtain rfl:true=g:=Option.some.inj hb;rw[if_pos (by simp[Region.wanted,hgd])];exact .inl (Lz ids (hs rfl) h1 h3 ⟨hk1,hk2⟩ h4 hp hXs hids hkp hR fun c' w' _ hRV=>hK _ _ (hRV.put o.dst (zZ hd)))
 |some gw =>
  obtain⟨j,want⟩:=gw;rw[hgd]at hb hK
  have hb':jC ops.toArray.toList E j want=some g:=by simpa using hb
  rw[<-DV (jo hk) hgd hE']at hb';have hw:=sZ hR hgd hb'
  cases g with
  |true =>
   rw[if_pos hw]
   exact .inl (Lz ids (hs rfl) h1 h3 ⟨hk1,hk2⟩ h4 hp hXs hids hkp hR fun c' w' _ hRV=>hK _ _ (RelV.put (v:=.cnd true _) (by
    obtain⟨Kk,G,q1,q2,q3,q4,q5,q6,q7⟩:=hRV
    exact⟨Kk,G,q1,q2,q3,q4,q5,q6,by simp only[VR];exact⟨fun _=>q7,fun e=>Bool.noConfusion e⟩⟩) o.dst (zZ hd)))
  |false =>
   rw[if_neg (by rw[hw];simp)];obtain⟨Kk,G,hX,hS,hE,hdf,hn,hkp'⟩:=hR;exact hK _ _ (RelV.put (C:=cx P kl n B) (v:=.cnd false _) ⟨Kk,G,hX,hS,hE,hdf,hn,hkp',by simp[VR]⟩ o.dst (zZ hd))
end
attribute [go_sem] vr
section
variable {K V Z:Type} [DecidableEq K]
def zG:List (K×V)->K->Option V
 |[],_=>none
 |p::l,k=>bif decide (p.1=k)then some p.2 else zG l k
def dF:List (K×V)->K->V->List (K×V)
 |[],k,v=>[(k,v)]
 |p::l,k,v=>bif decide (p.1=k)then(k,v)::l else p::dF l k v
def fC:List (K×V)->K->List (K×V)
 |[],_=>[]
 |p::l,k=>bif decide (p.1=k)then l else p::fC l k
omit [DecidableEq K] in
def zl(kd:K->Dt)(e:V->List Dt)(l:List (K×V)):List (Dt×List Dt):=l.map fun p=>(kd p.1,e p.2)
def fj{A:Type}(a:A)(k:A->Option Z):Option Z:=k a
theorem il{A:Type}{a:A}{k:A->Option Z}{z:Z}(h:fj a k=some z):∃x,a=x/\k x=some z:=⟨a,rfl,h⟩
variable {kd:K->Dt} {e:V->List Dt}
theorem N6(hk:∀a b,fi (kd a) (kd b)=decide (a=b)):∀(l:List (K×V)) (k:K),j1 (zl kd e l) (kd k)=(zG l k).map e
 |[],_=>rfl
 |p::l,k=>by
  have ih:=N6 hk l k;simp only[zl]at ih;simp only[zl,map_cons,j1,zG,hk,ih]
  cases decide (p.1=k) <;> rfl
theorem mR(hk:∀a b,fi (kd a) (kd b)=decide (a=b)):∀(l:List (K×V)) (k:K) (v:V),iL (zl kd e l) (kd k) (e v)=zl kd e (dF l k v)
 |[],_,_=>rfl
 |p::l,k,v=>by
  have ih:=mR hk l k v;simp only[zl]at ih;simp only[zl,map_cons,iL,dF,hk,ih]
  cases decide (p.1=k) <;> rfl
theorem Cc(hk:∀a b,fi (kd a) (kd b)=decide (a=b)):∀(l:List (K×V)) (k:K),iK (zl kd e l) (kd k)=zl kd e (fC l k)
 |[],_=>rfl
 |p::l,k=>by
  have ih:=Cc hk l k;simp only[zl]at ih;simp only[zl,map_cons,iK,fC,hk,ih]
  cases decide (p.1=k) <;> rfl
theorem iC(hk:∀a b,fi (kd a) (kd b)=decide (a=b))(l:List (K×V))(k:K)(d:V):Af (zl kd e l) (kd k) (e d)=e ((zG l k).getD d):=by
 simp only[Af,N6 hk]
 cases zG l k <;> rfl
theorem iD(hk:∀a b,fi (kd a) (kd b)=decide (a=b))(l:List (K×V))(k:K):(j1 (zl kd e l) (kd k)).isSome=(zG l k).isSome:=by
 rw[N6 hk]
 cases zG l k <;> rfl
omit [DecidableEq K] in
theorem oJ(l:List (K×V)):(zl kd e l).length=l.length:=by simp[zl]
end
theorem xp{K V:Type}(kd:K->Dt)(e:V->List Dt):zl kd e []=[]:=rfl
theorem dQ(a b:dy):fi (Dt.s a) (Dt.s b)=decide (a=b):=rfl
theorem Sp(k:IntKind)(a b:Int):fi (Dt.i k a) (Dt.i k b)=decide (a=b):=rfl
theorem rT{V:Type}(e:V->List Dt):∀l:List (dy×V),jN (.tk .str) (zl Dt.s e l)=True
 |[]=>by simp only[zl,map_nil,jN]
 |p::l=>by
  have ih:=rT e l;simp only[zl]at ih;simp only[zl,map_cons,jN,lr,ih,and_self]
theorem rU{V:Type}(k:IntKind)(e:V->List Dt):∀l:List (Int×V),jN (.tk (.int k)) (zl (Dt.i k) e l)=True
 |[]=>by simp only[zl,map_nil,jN]
 |p::l=>by
  have ih:=rU k e l;simp only[zl]at ih;simp only[zl,map_cons,jN,lr,ih,and_self]
theorem rV{K V:Type}{kd:K->List Dt}{ks:List Kd}(h:∀x,zF ks (kd x))(e:V->List Dt):∀l:List (K×V),jN (.ks ks) (zl (fun x=>Dt.a (kd x)) e l)=True
 |[]=>by simp only[zl,map_nil,jN]
 |p::l=>by
  have ih:=rV h e l;simp only[zl]at ih;simp only[zl,map_cons,jN,lr,ih,and_true,eq_true (h p.1)]
attribute [go_sem] xp rT rU oJ
def Nv(P:Program)(f:FuncId)(args:List Va)(v:Va):Prop :=
 ∀K (w:World) vals,VRs K w.heap [] vals args->∃c,(callFunc f vals.toArray).run P w=.ok (.value c) w/\VR K w.heap [] c v
theorem Qr{P:Program}{o:Oper}{c:Call}{fop:Operand}{f:FuncId}{cs:List Value}{a:Act}{w:World}(ho:o.op=.call c)(hc:c.callee=.value fop)(hf:a.eval fop=.func (.func f) #[] cs.toArray) :
  (execOp a.eval o).run P w=(callFunc f ((c.args.toList.map a.eval)++cs).toArray).run P w:=by
 obtain⟨callee,args,argTypes⟩:=c;obtain⟨dst,op,ty,pos,af,gd⟩:=o;cases ho;simp only at hc;subst hc
 have e:args.map a.eval=(args.toList.map a.eval).toArray:=by cases args;simp
 simp only[execOp,resolve,hf,Deferred.ofValue,Sem.run_bind,Sem.run_pure,Result.andThen_ok,invoke]
 congr 2
 simp
section
variable {P:Program} {kl:List Bool} {n:Nat} {B:Bs} {ops:Array Oper} {K:dz->List Ob->Prop} {E:dz} {H:List Ob}
theorem kB{o:Oper}{c:Call}{fop:Operand}{f:FuncId}{caps args:List Va}{v:Va}(hs:Nv P f args v)(ho:o.op=.call c)(hc:c.callee=.value fop)
  (hok:opOk true E fop/\allOk true E c.args.toList) (hf:opnd E fop=.fn f caps) (hp:jO H (opnds E c.args.toList++caps)=some args) (hflat:v.flat=true) {a:Act} {w:World} {Q:Exit->Act->World->Prop} {K':Act->World->Prop}
  (hR:Rel (cx P kl n B) E H a w) (hK:v.ok->∀c' w',RelV (cx P kl n B) E H c' v a w'->K' (a.put o.dst c') w'):o.wp P a w K' Q:=by
 obtain⟨Kk,G,hX,hS,hE,hdf,hn,hkp⟩:=hR;have hvf:=zz hE rfl fop hok.1;rw[hf]at hvf;simp only[VR]at hvf;obtain⟨cs,hcs,hcv⟩:=hvf;have hargs:=vt hE rfl c.args.toList hok.2;have hall:=At hS hp (hargs.append hcv);obtain⟨c',hrun,hv⟩:=hs _ w _ hall;unfold Oper.wp;rw[Qr ho hc hcs,hrun];simp only[Oper.upon];exact hK hv.ok c' w ⟨Kk,G,hX,hS,hE,hdf,hn,hkp,Hf hflat hv⟩
theorem cP{o:Oper}{l:List Oper}{f:FuncId}{av args:List Va}{g:Bool}{v:Va}(hs:g=true->Nv P f args v)(ha:Is (iE E o) (some (f,av)))(hb:Is (iR ops.toList E o) (some g))(hp:Is (jO H av) (some args))(hok:iP n g E o)(hf:Is v.flat true)
  (cont:(g=true->v.ok)->eU P kl n B ops K (eM P kl n ops.toList l ⟨dV E o.dst (iz o.guard g v),H,True⟩)):Rg P kl n B ops (o::l) E H K:=by
 unfold Is iE at ha;unfold Is iR at hb;split at ha
 rotate_left
 .cases ha
 rename_i c h1
 split at ha
 rotate_left
 .cases ha
 rename_i fop h3
 split at ha
 rotate_left
 .cases ha
 rename_i f' caps h4
 cases ha;obtain⟨hd,hk⟩:=u1 hok h1 h3
 cases hg:o.guard with
 |none =>
  rw[hg]at hb;obtain rfl:true=g:=Option.some.inj hb;intro hB a w Q hR hK
  refine wpList_plain hg fun K' hK'=>?_
  refine kB (hs rfl) h1 h3 hk h4 hp hf hR fun hvo c' w' hRV=>?_
  have c1:=cont fun _=>hvo
  rw[AB hg]at c1;exact hK' _ _ (Rg.run c1 hB _ _ _ (hRV.put o.dst (zZ hd)) hK)
 |some gw =>
  obtain⟨j,want⟩:=gw;rw[hg]at hb;intro hB a w Q hR hK;have hw:=sZ hR hg hb
  refine wpList_step fun K' hK'=>?_
  cases g with
  |true =>
   rw[if_pos hw]
   refine kB (hs rfl) h1 h3 hk h4 hp hf hR fun hvo c' w' hRV=>?_
   have c1:=cont fun _=>hvo
   rw[vz hg]at c1
   have hRV:RelV (cx P kl n B) E H c' (.cnd true v) a w':=by
    obtain⟨Kk,G,hX,hS,hE,hdf,hn,hkp,hv⟩:=hRV;exact⟨Kk,G,hX,hS,hE,hdf,hn,hkp,by simp only[VR];exact⟨fun _=>hv,fun e=>Bool.noConfusion e⟩⟩
   exact hK' _ _ (Rg.run c1 hB _ _ _ (hRV.put o.dst (zZ hd)) hK)
  |false =>
   rw[if_neg (by rw[hw];simp)];obtain⟨Kk,G,hX,hS,hE,hdf,hn,hkp⟩:=hR;have hRV:RelV (cx P kl n B) E H undef (.cnd false v) a w:=⟨Kk,G,hX,hS,hE,hdf,hn,hkp,by simp[VR]⟩
   have c1:=cont fun e=>Bool.noConfusion e
   rw[vz hg]at c1;exact hK' _ _ (Rg.run c1 hB _ _ _ (hRV.put o.dst (zZ hd)) hK)
end
def EF(m:Nat)(kl:List Bool)(v:Va)(Y H:List Ob)(pv:Pv):Prop :=
 pv.ok/\kl.length<=m/\m<=H.length/\(gJ m H pv.v).all (fun o=>decide (o<m))=true/\iv (fun o=>decide (o<m)) (gl m H (H.take m))=true /\
  gn (gJ m H pv.v) v/\yZ (gl m H (H.take m)) Y/\Y.length=m/\v.all (fun o=>decide (o<m))=true/\iv (fun o=>decide (o<m)) Y=true
section
variable {P:Program} {kl:List Bool} {rs:List ResultVar} {m:Nat} {E:dz} {H Y:List Ob} {v:Va}
theorem AZ(h:EF m kl v Y H (gI P E H rs)):ib P rs m kl (fun r X=>r=v/\X=Y) E H:=by
 obtain⟨h1,h2,h3,h4,h5,h6,h7,h8,h9,h10⟩:=h;exact⟨h1,h2,h3,h4,h5,_,_,h6,h7,h8,h9,h10,rfl,rfl⟩
theorem zM(h:EF m kl v Y H (gI P E H rs)):qA P rs m kl (fun r X=>r=v/\X=Y) .ret E H:=AZ h
end
theorem vL{n:Nat}{rows:List (List Dt)}{i:Nat}{r:List Dt}(h:eP n rows)(hr:r.length=n):eP n (rows.set i r)=True :=
 eq_true fun x hx=>by
  rcases mem_or_eq_of_mem_set hx with hx|rfl
  .exact h x hx
  .exact hr
theorem nc(n:Nat)(a b:List (List Dt)):eP n (a++b)=(eP n a/\eP n b):=by
 unfold eP;simp only[mem_append,eq_iff_iff];exact⟨fun h=>⟨fun r hr=>h r (.inl hr),fun r hr=>h r (.inr hr)⟩,fun h r hr=>hr.elim (h.1 r) (h.2 r)⟩
theorem tp{n k:Nat}{rows:List (List Dt)}(h:eP n rows):eP n (rows.take k)=True:=eq_true fun x hx=>h x (mem_of_mem_take hx)
theorem tq{n k:Nat}{rows:List (List Dt)}(h:eP n rows):eP n (rows.drop k)=True:=eq_true fun x hx=>h x (mem_of_mem_drop hx)
theorem S0{n k:Nat}{r:List Dt}(hr:r.length=n):eP n (List.replicate k r)=True:=eq_true fun x hx=>by rw[(mem_replicate.1 hx).2];exact hr
attribute [go_sem] length_map Int.toNat_natCast tj uj pq bne_self_eq_false
attribute [go_sem] EF vL nc tp tq S0
def yH(s:List UInt8)(c:Int):Int:=Lib.indexByte s c.toNat.toUInt8
def Ah(s:List UInt8)(c:Int):Int:=(s.count c.toNat.toUInt8:Nat)
def iJ(a b:List UInt8):Int:=Lib.compareBytes a b
theorem CR(c:UInt8):∀s:List UInt8,-1<=Lib.indexByte s c/\(Lib.indexByte s c<s.length∨Lib.indexByte s c=-1)
 |[]=>by simp[Lib.indexByte]
 |b::s=>by
  have:=CR c s;unfold Lib.indexByte;simp only[length_cons];split
  .omega
  .split <;> (rename_i h;simp only[beq_iff_eq]at h;omega)
theorem kN(s:List UInt8)(c:Int):-1<=yH s c/\(yH s c<s.length∨yH s c=-1):=CR c.toNat.toUInt8 s
theorem QI(s:List UInt8)(c:Int):0<=Ah s c/\Ah s c<=s.length:=by
 unfold Ah;have:=count_le_length (a:=c.toNat.toUInt8) (l:=s);omega
theorem sD(a b:List UInt8):-1<=iJ a b/\iJ a b<=1:=by
 unfold iJ
 induction a generalizing b with
 |nil=>cases b <;> simp[Lib.compareBytes]
 |cons x a ih =>
  cases b with
  |nil=>simp[Lib.compareBytes]
  |cons y b =>
   unfold Lib.compareBytes;have:=ih b;split
   .omega
   .split <;> omega
theorem Nv.indexByte {P:Program} {f:FuncId} {fn:Func} (hf:P.funcs[f]?=some fn) (hname:(fn.name == "runtime.NumGoroutine")=false) (hb:fn.body.isNone=true) (hn:Extern.findNext fn=none) (he:Extern.find fn=some Extern.BytealgIndexByte.indexByte) (s:List UInt8) (c:Int) :
  Nv P f [.p (.s s),.p (.i .u8 c)] (.p (.i .i64 (yH s c))):=by
 intro K w vals h;simp only[VRs,VR,DR]at h;obtain⟨a,r,rfl,⟨rfl,hl⟩,b,r',rfl,⟨rfl,hc⟩,rfl⟩:=h;refine⟨.int .i64 (yH s c),?_,?_⟩
 .rw[run_callFunc_extern hf hname hb hn he,Lib.run_indexByteString]
  simp only[Result.andThen,yH]
 .simp only[VR,DR,true_and]
  have:=kN s c;simp only[dJ]at hl;simp only[Fits,lo,hi];omega
theorem Nv.countByte {P:Program} {f:FuncId} {fn:Func} (hf:P.funcs[f]?=some fn) (hname:(fn.name == "runtime.NumGoroutine")=false) (hb:fn.body.isNone=true) (hn:Extern.findNext fn=none) (he:Extern.find fn=some Extern.BytealgCount.count) (s:List UInt8) (c:Int) :
  Nv P f [.p (.s s),.p (.i .u8 c)] (.p (.i .i64 (Ah s c))):=by
 intro K w vals h;simp only[VRs,VR,DR]at h;obtain⟨a,r,rfl,⟨rfl,hl⟩,b,r',rfl,⟨rfl,hc⟩,rfl⟩:=h;refine⟨.int .i64 (Ah s c),?_,?_⟩
 .rw[run_callFunc_extern hf hname hb hn he,Lib.run_countString]
  simp only[Result.andThen,Ah,Lib.countByte]
 .simp only[VR,DR,true_and]
  have:=QI s c;simp only[dJ]at hl;simp only[Fits,lo,hi];omega
theorem Nv.compare {P:Program} {f:FuncId} {fn:Func} (hf:P.funcs[f]?=some fn) (hname:(fn.name == "runtime.NumGoroutine")=false) (hb:fn.body.isNone=true) (hn:Extern.findNext fn=none) (he:Extern.find fn=some Extern.BytealgCompare.compare) (a b:List UInt8) :
  Nv P f [.p (.s a),.p (.s b)] (.p (.i .i64 (iJ a b))):=by
 intro K w vals h;simp only[VRs,VR,DR]at h;obtain⟨x,r,rfl,⟨rfl,hl⟩,y,r',rfl,⟨rfl,hl'⟩,rfl⟩:=h;refine⟨.int .i64 (iJ a b),?_,?_⟩
 .rw[run_callFunc_extern hf hname hb hn he,Lib.run_compareString]
  simp only[Result.andThen,iJ]
 .simp only[VR,DR,true_and]
  have:=sD a b;simp only[Fits,lo,hi];omega
theorem uu(d:Dt):1<=lq d:=by cases d <;> simp only[lq] <;> omega
theorem uv{r:List Dt}(h:r≠[]):1<=fq r:=by
 cases r with
 |nil=>exact absurd rfl h
 |cons d r=>simp only[fq];have:=uu d;omega
theorem pb{r:List Dt}:∀{rows:List (List Dt)},r∈rows->fq r<=jA rows
 |x::rows,h=>by
  simp only[jA]
  rcases mem_cons.1 h with rfl|h
  .omega
  .have:=pb h;omega
theorem Iy{α:Type}{f:α->List Dt}{l:List α}{x:α}(h:x∈l):fq (f x)<=jA (l.map f):=pb (mem_map_of_mem h)
theorem Gq{α:Type}{f:α->List Dt}(hf:∀x,f x≠[]):∀l:List α,l.length<=jA (l.map f)
 |[]=>by simp[jA]
 |x::l=>by
  have:=Gq hf l;have:=uv (hf x);simp only[map_cons,jA,length_cons];omega
def NvI(P:Program)(f:FuncId):Prop:=∀(c:Value) (w:World),(callFunc f #[c]).run P w=.ok (.value c) w
theorem NvI.noEscape {P:Program} {f:FuncId} {fn:Func} (hf:P.funcs[f]?=some fn) (hname:(fn.name == "runtime.NumGoroutine")=false) (hb:fn.body.isNone=true) (hn:Extern.findNext fn=none) (he:Extern.find fn=some Extern.AbiNoEscape.same):NvI P f:=by
 intro c w;rw[run_callFunc_extern hf hname hb hn he,Lib.run_noEscape];rfl
section
variable {P:Program} {kl:List Bool} {n:Nat} {B:Bs} {ops:Array Oper} {K:dz->List Ob->Prop} {E:dz} {H:List Ob}
theorem Qq{o:Oper}{c:Call}{fop:Operand}{f:FuncId}{caps:List Va}{v:Va}(hs:NvI P f)(ho:o.op=.call c)(hc:c.callee=.value fop)
  (hok:opOk true E fop/\allOk true E c.args.toList) (hf:opnd E fop=.fn f caps) (hv:opnds E c.args.toList++caps=[v]) {a:Act} {w:World} {Q:Exit->Act->World->Prop} {K':Act->World->Prop}
  (hR:Rel (cx P kl n B) E H a w) (hK:∀c',RelV (cx P kl n B) E H c' v a w->K' (a.put o.dst c') w):o.wp P a w K' Q:=by
 obtain⟨Kk,G,hX,hS,hE,hdf,hn,hkp⟩:=hR;have hvf:=zz hE rfl fop hok.1;rw[hf]at hvf;simp only[VR]at hvf;obtain⟨cs,hcs,hcv⟩:=hvf;have hargs:=vt hE rfl c.args.toList hok.2;have hall:=hargs.append hcv;rw[hv]at hall;simp only[VRs]at hall;obtain⟨c',cs',hall1,hall2,rfl⟩:=hall;unfold Oper.wp;rw[Qr ho hc hcs,hall1,hs c' w];simp only[Oper.upon];exact hK c' ⟨Kk,G,hX,hS,hE,hdf,hn,hkp,hall2⟩
theorem dw{o:Oper}{l:List Oper}{f:FuncId}{v:Va}{g:Bool}(hs:NvI P f)(ha:Is (iE E o) (some (f,[v])))(hb:Is (iR ops.toList E o) (some g))(hok:iP n g E o)
  (cont:eU P kl n B ops K (eM P kl n ops.toList l ⟨dV E o.dst (iz o.guard g v),H,True⟩)):Rg P kl n B ops (o::l) E H K:=by
 unfold Is iE at ha;unfold Is iR at hb;split at ha
 rotate_left
 .cases ha
 rename_i c h1
 split at ha
 rotate_left
 .cases ha
 rename_i fop h3
 split at ha
 rotate_left
 .cases ha
 rename_i f' caps h4
 have ha':=Option.some.inj ha;obtain rfl:f'=f:=congrArg Prod.fst ha';have hv:opnds E c.args.toList++caps=[v]:=congrArg Prod.snd ha';obtain⟨hd,hk⟩:=u1 hok h1 h3
 cases hg:o.guard with
 |none =>
  rw[hg]at hb;obtain rfl:true=g:=Option.some.inj hb;intro hB a w Q hR hK
  refine wpList_plain hg fun K' hK'=>?_
  refine Qq hs h1 h3 hk h4 hv hR fun c' hRV=>?_
  have c1:=cont;rw[AB hg]at c1;exact hK' _ _ (Rg.run c1 hB _ _ _ (hRV.put o.dst (zZ hd)) hK)
 |some gw =>
  obtain⟨j,want⟩:=gw;rw[hg]at hb;intro hB a w Q hR hK;have hw:=sZ hR hg hb
  refine wpList_step fun K' hK'=>?_
  cases g with
  |true =>
   rw[if_pos hw]
   refine Qq hs h1 h3 hk h4 hv hR fun c' hRV=>?_
   have c1:=cont;rw[vz hg]at c1
   have hRV:RelV (cx P kl n B) E H c' (.cnd true v) a w:=by
    obtain⟨Kk,G,hX,hS,hE,hdf,hn,hkp,hv⟩:=hRV;exact⟨Kk,G,hX,hS,hE,hdf,hn,hkp,by simp only[VR];exact⟨fun _=>hv,fun e=>Bool.noConfusion e⟩⟩
   exact hK' _ _ (Rg.run c1 hB _ _ _ (hRV.put o.dst (zZ hd)) hK)
  |false =>
   rw[if_neg (by rw[hw];simp)];obtain⟨Kk,G,hX,hS,hE,hdf,hn,hkp⟩:=hR;have hRV:RelV (cx P kl n B) E H undef (.cnd false v) a w:=⟨Kk,G,hX,hS,hE,hdf,hn,hkp,by simp[VR]⟩;have c1:=cont;rw[vz hg]at c1;exact hK' _ _ (Rg.run c1 hB _ _ _ (hRV.put o.dst (zZ hd)) hK)
end
theorem QQ{Z A:Type}{z:Z}{g:Bool}{a:Option A}{d:A}{k:A->Option Z}(h:callG g a d k=some z):∃x,(g=true->a=some x)/\(g=false->x=d)/\k x=some z:=by
 cases g with
 |true=>obtain⟨x,h1,h2⟩:=zd h;exact⟨x,fun _=>h1,fun e=>Bool.noConfusion e,h2⟩
 |false=>exact⟨d,fun e=>Bool.noConfusion e,fun _=>rfl,h⟩
theorem Rel.forget{C:Cx}{E:dz}{H:List Ob}{a:Act}{w:World}{ids:List Nat}{X:List Ob}(hX:jq ids H ids=some X)(hids:j0 H.length ids=true)(hR:Rel C E H a w) :
  Rel C (ik (fT ids H) E) (eo (gh (fT ids H) H) ids (gr ids H.length X)) a w:=by
 obtain⟨Kk,G,h1,h2,h3,h4,h5,h6⟩:=hR;obtain⟨hnd,hlt⟩:=H6 hids;obtain⟨hl,hg⟩:=F5 hX
 have hpl:(gh (fT ids H) H).length=H.length:=by rw[jQ,length_map]
 have hM:Mn Kk Kk w.heap w.heap:=⟨fun _ h=>h,fun _ _=>rfl⟩
 have hMg:Mg (fT ids H) G G:=fun _ _ _ h=>h
 have hxl:ids.length<=(gr ids H.length X).length:=by rw[qd];omega
 have hlen:(eo (gh (fT ids H) H) ids (gr ids H.length X)).length=H.length:=by rw[AC hxl,qd,hpl];omega
 have key:∀(o:Nat) (y:Ob),(eo (gh (fT ids H) H) ids (gr ids H.length X))[o]?=some y->∃x,H[o]?=some x/\(y=x∨y=x.prune (fT ids H)):=by
  intro o y hy
  rcases H7 hnd (fun i hi=>by rw[hpl];exact hlt i hi) hxl hy with⟨j,hj,h⟩|⟨_,_,h⟩|⟨j,hj,_,h⟩
  .rw[Ds]at h
   obtain⟨x,hx,hr⟩:=hg j o hj;rw[hx]at h;simp only[Option.map_some,xW hr,Option.some.injEq]at h;have hol:=hlt o (mem_of_getElem? hj);rw[FR (getElem?_eq_getElem hol)]at h;exact⟨_,getElem?_eq_getElem hol,.inl h.symm⟩
  .rw[jQ,getElem?_map]at h
   cases hx:H[o]? with
   |none=>rw[hx]at h;cases h
   |some x=>rw[hx]at h;exact⟨x,rfl,.inr (Option.some.inj h).symm⟩
  .have:=(List.getElem?_eq_some_iff.1 h).1
   rw[qd]at this;omega
 refine⟨Kk,G,h1,⟨by rw[hlen];exact h2.len,h2.kb,h2.gb,h2.inj,fun o g y hgo hy=>?_,h2.tb⟩,fun m=>by rw[Ay];exact VR.prune hM hMg _ _ (h3 m),h4,h5,fun o ho=>?_⟩
 .obtain⟨x,hx,rfl|rfl⟩:=key o y hy
  .exact h2.ob o g _ hgo hx
  .exact ObR.prune hM hMg (fun _ _=>rfl) (h2.ob o g _ hgo hx)
 .obtain⟨x,hx,hk⟩:=h6 o ho
  have hol:=(List.getElem?_eq_some_iff.1 hx).1;obtain⟨x',hx',h⟩:=key o _ (getElem?_eq_getElem (by rw[hlen];exact hol))
  rw[hx]at hx';cases hx'
  refine⟨_,getElem?_eq_getElem (by rw[hlen];exact hol),?_⟩
  rcases h with h|h
  .rw[h];exact hk
  .rw[h];cases x <;> first|rfl|cases hk
section
variable {P:Program} {kl:List Bool} {n:Nat} {B:Bs} {ops:Array Oper} {K:dz->List Ob->Prop} {E:dz} {H:List Ob}
theorem cZ{o:Oper}{l:List Oper}{f:FuncId}{av args:List Va}{X Y:List Ob}{g:Bool}{v:Va}(ids:List Nat)(hs:g=true->Does P f args X fun r X'=>r=v/\X'=Y)(hY:g=false->Y=X)(ha:Is (iE E o) (some (f,av)))(hb:Is (iR ops.toList E o) (some g))(hp:Is (jX ids av) (some args))(hXs:Is (jq ids H ids) (some X))(hids:j0 H.length ids=true)(hok:iP n g E o)
  (cont:eU P kl n B ops K (eM P kl n ops.toList l ⟨dV (ik (fT ids H) E) o.dst (iz o.guard g (ew ids H.length v)),eo (gh (fT ids H) H) ids (gr ids H.length Y),True⟩)):Rg P kl n B ops (o::l) E H K:=by
 unfold Is iE at ha;unfold Is iR at hb;split at ha
 rotate_left
 .cases ha
 rename_i c h1
 split at ha
 rotate_left
 .cases ha
 rename_i fop h3
 split at ha
 rotate_left
 .cases ha
 rename_i f' caps h4
 cases ha;obtain⟨hd,hk⟩:=u1 hok h1 h3;have hrun:=Rg.run cont;intro hB a w Q hR hKK
 cases hg:o.guard with
 |none =>
  rw[hg]at hb;obtain rfl:true=g:=Option.some.inj hb
  refine wpList_plain hg fun K' hK'=>?_
  rw[AB hg]at hrun
  refine HD ids (hs rfl) h1 h3 hk h4 hp hXs hids hR fun c' r X' w' ⟨h5,h6⟩ _ hRV=>?_
  subst h5;subst h6
  exact hK' _ _ (hrun hB _ _ _ (hRV.put o.dst (zZ hd)) hKK)
 |some gw =>
  obtain⟨j,want⟩:=gw;rw[hg]at hb;have hw:=sZ hR hg hb;rw[vz hg]at hrun
  refine wpList_step fun K' hK'=>?_
  cases g with
  |true =>
   rw[if_pos hw]
   refine HD ids (hs rfl) h1 h3 hk h4 hp hXs hids hR fun c' r X' w' ⟨h5,h6⟩ _ hRV=>?_
   subst h5;subst h6
   exact hK' _ _ (hrun hB _ _ _ (RelV.put (v:=.cnd true _) (by
    obtain⟨Kk,G,q1,q2,q3,q4,q5,q6,q7⟩:=hRV
    exact⟨Kk,G,q1,q2,q3,q4,q5,q6,by simp only[VR];exact⟨fun _=>q7,fun e=>Bool.noConfusion e⟩⟩) o.dst (zZ hd)) hKK)
  |false =>
   rw[if_neg (by rw[hw];simp)];rw[hY rfl]at hrun;obtain⟨Kk,G,hX,hS,hE,hdf,hn,hkp'⟩:=hR.forget hXs hids;exact hK' _ _ (hrun hB _ _ _ (RelV.put (C:=cx P kl n B) (v:=.cnd false _) ⟨Kk,G,hX,hS,hE,hdf,hn,hkp',by simp[VR]⟩ o.dst (zZ hd)) hKK)
end
def Nt(s:Nat)(H:List Ob):List Nat->Bool
 |[]=>true
 |i::ids=>((dT H i).kept||decide (i=s))&&Nt s H ids
def wH(s:Nat)(H:List Ob)(ids:List Nat):Bool:=ids.contains s&&!(dT H s).kept&&Nt s H ids
section
variable {P:Program} {kl:List Bool} {n:Nat} {B:Bs} {ops:List Oper} {K:dz->List Ob->Prop} {l:Plan} {obs:List En} {E:dz} {H:List Ob}
end
attribute [go_sem] Nt wH
theorem Cn:∀a b:List (List Dt),gP (a++b)=gP a++gP b
 |[],b=>rfl
 |[]::a,b=>by simp only[cons_append,gP,Cn a b]
 |[.i _ n]::a,b=>by simp only[cons_append,gP,Cn a b]
 |[.b _]::a,b=>by simp only[cons_append,gP,Cn a b]
 |[.s _]::a,b=>by simp only[cons_append,gP,Cn a b]
 |[.l _]::a,b=>by simp only[cons_append,gP,Cn a b]
 |[.a _]::a,b=>by simp only[cons_append,gP,Cn a b]
 |(_::_::_)::a,b=>by simp only[cons_append,gP,Cn a b]
theorem QO:∀a b:List (List Dt),fy (a++b)=(fy a/\fy b)
 |[],b=>by simp[fy]
 |[]::a,b=>by simp[fy]
 |[.i _ n]::a,b=>by simp[fy,QO a b,and_assoc]
 |[.b _]::a,b=>by simp[fy]
 |[.s _]::a,b=>by simp[fy]
 |[.l _]::a,b=>by simp[fy]
 |[.a _]::a,b=>by simp[fy]
 |(_::_::_)::a,b=>by simp[fy]
theorem CA(a b:List Int):strOf (a++b)=strOf a++strOf b:=by simp only[strOf,map_append]
theorem Ci:strOf []=[]:=rfl
theorem Cq(n:Int)(l:List Int):strOf (n::l)=UInt8.ofNat n.toNat::strOf l:=rfl
theorem Sz(s:dy):strOf (FP s)=s:=by
 simp only[strOf,FP,map_map];refine Eq.trans (map_congr_left fun b _=>?_) (map_id _);simp
theorem SL(s:dy):(FP s).length=s.length:=by simp only[FP,length_map]
attribute [go_sem] Cn QO fy CA Ci Cq gP Sz SL
theorem sd{p:Prop}(h:p:=by(repeat' apply And.intro) <;> first|assumption|omega|(intros;omega)|(intro hg;simp only[Bool.and_eq_true,Bool.or_eq_true,Bool.not_eq_true',decide_eq_true_eq,decide_eq_false_iff_not]at hg;omega)|(simp only[Bool.and_eq_true,Bool.or_eq_true,Bool.not_eq_true',Bool.and_eq_false_iff,Bool.or_eq_false_iff,Bool.not_eq_false',decide_eq_true_eq,decide_eq_false_iff_not];omega)|(intros;simp only[*,Bool.not_false,Bool.not_true,Bool.and_self,Bool.or_self,Bool.and_true,Bool.true_and,Bool.and_false,Bool.or_true,Bool.or_false];done)|(simp_all;done)|(simp_all <;> intros <;> omega)|grind):p:=h
theorem St.cell{K:Nat->Prop}{G:List Gh}{H:List Ob}{w:World}(hS:St K G H w){o off:Nat}{T:TypeId}{vs:List Va}{v':Va}(ho:H[o]?=some (.cells T vs))(h:∀c v,vs[off]?=some v->VR K w.heap G c v->VR K w.heap G c v') :
  St K G (H.set o (.cells T (vs.set off v'))) w:=by
 have hol:=(List.getElem?_eq_some_iff.1 ho).1;refine⟨by simpa using hS.len,hS.kb,hS.gb,hS.inj,fun i g x hg hx=>?_,hS.tb⟩
 by_cases e:i=o
 .subst e
  rw[getElem?_set_self hol]at hx;cases hx;obtain⟨b,cs,r1,r2,r3⟩:=hS.ob i g _ hg ho;refine⟨b,cs,r1,r2,?_⟩
  cases hv:vs[off]? with
  |none=>rwa [set_eq_of_length_le (by rw[List.getElem?_eq_none_iff]at hv;exact hv)]
  |some v =>
   obtain⟨c0,hc0,hv0⟩:=r3.get off _ hv;have:=r3.set (h _ _ hv hv0) off
   rwa [show cs.set off c0=cs by
    apply ext_getElem?;intro j
    by_cases hj:off=j
    .subst hj;rw[getElem?_set_self (List.getElem?_eq_some_iff.1 hc0).1,hc0]
    .rw[getElem?_set_ne hj]]at this
 .rw[getElem?_set_ne (Ne.symm e)]at hx
  exact hS.ob i g x hg hx
theorem Does.np{P:Program}{f:FuncId}{args:List Va}{T:TypeId}{vs vs':List Va}{X Y:List Ob}{v:Va}
  (h1:Does P f args (.cells T (.nil::vs)::X) fun r Z=>r=v/\Z=.cells T (.ptr 0 0::vs')::Y)
  (h2:Does P f args (.cells T (.ptr 0 0::vs)::X) fun r Z=>r=v/\Z=.cells T (.ptr 0 0::vs')::Y) :
  Does P f args (.cells T (.np 0::vs)::X) fun r Z=>r=v/\Z=.cells T (.np 0::vs')::Y:=by
 refine⟨h1.1,fun K G w vals hS hv=>?_⟩
 have eu:∀{e:Ending} {w':World},(∃c r X' K' G',e=.returned c/\(r=v/\X'=.cells T (.ptr 0 0::vs')::Y)/\Ext (dG (true::kinds X)) K G w K' G' w'/\St K' G' X' w'/\VR K' w'.heap G' c r/\fE (dG (true::kinds X)) X') ->
   ∃c r X' K' G',e=.returned c/\(r=v/\X'=.cells T (.np 0::vs')::Y)/\Ext (dG (true::kinds X)) K G w K' G' w'/\St K' G' X' w'/\VR K' w'.heap G' c r/\fE (dG (true::kinds X)) X':=by
  rintro e w' ⟨c,r,X',K',G',e1,⟨e2,rfl⟩,e3,e4,e5,e6⟩;refine⟨c,r,_,K',G',e1,⟨e2,rfl⟩,e3,?_,e5,fun i hi=>?_⟩
  .have:=e4.cell (o:=0) (off:=0) (v':=.np 0) rfl (fun c v hv hc=>by cases hv;simp only[VR]at *;exact .inr hc)
   simpa using this
  .obtain⟨x,hx,hk⟩:=e6 i hi
   cases i with
   |zero=>exact⟨_,rfl,rfl⟩
   |succ i=>exact⟨x,by simpa using hx,hk⟩
 -- the address
 have hlen:=hS.len
 have h0:∃g,G[0]?=some g:=by
  have:0<G.length:=by rw[hlen];simp
  exact⟨_,getElem?_eq_getElem this⟩
 obtain⟨g,hg⟩:=h0;obtain⟨b,cs,r1,r2,r3⟩:=hS.ob 0 g _ hg rfl;simp only[VRs]at r3;obtain⟨c0,cs0,rfl,hc0,hcs0⟩:=r3
 have key:∀v0,VR K w.heap G c0 v0->St K G (.cells T (v0::vs)::X) w:=by
  intro v0 hv0;refine⟨by simpa using hlen,hS.kb,hS.gb,hS.inj,fun i g' x hg' hx=>?_,hS.tb⟩
  cases i with
  |zero =>
   obtain rfl:g=g':=Option.some.inj (hg.symm.trans hg');cases hx;exact⟨b,c0::cs0,r1,r2,by simp only[VRs];exact⟨c0,cs0,rfl,hv0,hcs0⟩⟩
  |succ i=>exact hS.ob (i+1) g' x hg' (by simpa using hx)
 simp only[VR]at hc0
 rcases hc0 with hc0|hc0
 .exact(h1.2 K G w vals (key .nil (by simp only[VR];exact hc0)) hv).mono fun e w' hh=>eu hh
 .exact(h2.2 K G w vals (key (.ptr 0 0) (by simp only[VR];exact hc0)) hv).mono fun e w' hh=>eu hh
section
variable {α β:Type}
open Classical in
noncomputable def ve(p:α->Prop)(k:α->Option β):Option β:=if h:∃z,∀x,p x->k x=some z then some h.choose else none
omit [Tabs] in
theorem Gj{p:α->Prop}{k:α->Option β}{z:β}(h:ve p k=some z):∀x,p x->k x=some z:=by
 unfold ve at h;split at h
 .rename_i hh
  cases h;exact hh.choose_spec
 .cases h
omit [Tabs] in
theorem Oq{p:α->Prop}{k:α->Option β}{z:β}(h0:∃x,p x)(h:∀x,p x->k x=some z):ve p k=some z:=by
 have hh:∃z,∀x,p x->k x=some z:=⟨z,h⟩;unfold ve;rw[dif_pos hh];obtain⟨x,hx⟩:=h0;have h1:=hh.choose_spec x hx;rw[h x hx]at h1;exact h1.symm
end
section
variable {P:Program} {kl:List Bool} {n:Nat} {B:Bs} {ops:Array Oper} {K:dz->List Ob->Prop} {E:dz} {H:List Ob}
theorem Rg.any{o:Oper}{l:List Oper}(hg:o.guard=none)(hd:gv n o.dst){I:Va->List Ob->Prop}
  (hrun:∀a w,Rel (cx P kl n B) E H a w->∃c w' v H',(execOp a.eval o).run P w=.ok (.value c) w'/\I v H'/\RelV (cx P kl n B) E H' c v a w')
  (cont:∀v H',I v H'->eU P kl n B ops K (eM P kl n ops.toList l ⟨dV E o.dst v,H',True⟩)):Rg P kl n B ops (o::l) E H K:=by
 intro hB a w Q hR hK
 refine wpList_plain hg fun K' hK'=>?_
 obtain⟨c,w',v,H',h1,h2,h3⟩:=hrun a w hR;unfold Oper.wp;rw[h1];simp only[Oper.upon];exact hK' _ _ (Rg.run (cont v H' h2) hB _ _ _ (h3.put o.dst (zZ hd)) hK)
theorem Dy{Kt V:Type}(kd:Kt->Dt)(e:V->List Dt)(l:List (Kt×V)):(zl kd e l).length=l.length:=by simp[zl]
end
attribute [go_sem] Dy
end Go.Vc
