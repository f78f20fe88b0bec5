/- An abstract machine for the model: what it computes on, its operations, the walk of a body, and that all of it is true of the model (part 2). -/
import Derived.Test.YtggigadnagoglafGreatDoorVc1
import Derived.Deep.LoopGhost
import Derived.Orders
set_option linter.unusedSectionVars false
open List
namespace Go.Vc
variable [Tabs]
section
variable {C:Cx} {E:dY} {H:List Ob} {a:Act} {w:World}

theorem xM(w:World)(g:Nat)(cs:Array Value):∀i,i≠g->(w.setRow g cs).heap[i]?=w.heap[i]?:=fun i h=>setRow_other w g i cs h

theorem sE(hR:Rel C E H a w)(o:Oper){t:TypeId}{x y:Operand}(ho:o.op=.store t x y)(hx:opOk true E x)(hy:opOk true E y)(hok:(xt C.P E H t (opnd E x) (opnd E y)).ok) :
  fW C o a w (xt C.P E H t (opnd E x) (opnd E y)).v (xt C.P E H t (opnd E x) (opnd E y)).E (xt C.P E H t (opnd E x) (opnd E y)).H:=by
 obtain⟨K,G,hX,hS,hE,hd,hn,hkp⟩:=hR;have hvx:=zw hE rfl x hx;have hvy:=zw hE rfl y hy;unfold xt at hok|-;split at hok
 rotate_left
 .exact hok.elim
 rename_i ti ht
 split at hok
 .rename_i oo off hox
  split at hok
  rotate_left
  .exact hok.elim
  rename_i T vs hob
  obtain⟨hcell,hone,hsz,hfit⟩:=hok;rw[hox]at hvx;simp only[VR]at hvx;obtain⟨g,b,hg,hgb,hax⟩:=hvx;obtain⟨b',cs,hb',hb,hvs⟩:=hS.ob oo g _ hg (zn hob (by simp))
  obtain rfl:b'=b:=by rw[hgb]at hb';exact(Option.some.inj hb').symm
  have hcv:=vO hvy hcell;have hcl:=hcv.length;have hvl:=hvs.length;have hst:=GI (P:=C.P) b' off T (0,0) (a.eval y).cells.toList 0 cs.toArray w hb (Free.zero _) (by simp at hcl|-;omega) (CY hcv hone)
  have hsize:¬ (a.eval y).cells.size≠ti.size:=by simp at hcl;omega
  have hrun:(Instr.storeAt t (a.eval x) (a.eval y)).run C.P w=.ok () (w.setRow b' (eP cs (off+0) (a.eval y).cells.toList).toArray):=by
   simp only[hax,Instr.storeAt,Instr.sureAddr,Sem.run_bind,Sem.run_pure,Result.andThen_ok,storeVar,run_sizeOf w ht,if_neg hsize];exact hst
  refine⟨undef,_,.inr ⟨by obtain⟨dst,op,ty,pos,af,gd⟩:=o;cases ho;exact CN hrun,rfl⟩,?_⟩;have hMn:Mn K K w.heap (w.setRow b' (eP cs (off+0) (a.eval y).cells.toList).toArray).heap:=⟨fun _ h=>h,fun i hi=>xM w b' _ i fun e=>(hS.gb oo g b' hg hgb).2 (e ▸ hi)⟩;refine⟨K,G,hX.trans (Ext.modA C.kp hg hgb rfl ⟨rfl,fun _=>Nat.le_refl _⟩ rfl (by simp) (xM w b' _)),hS.modA hg hgb (by simp) (xM w b' _) ?_,fun m=>VR.grow hMn (fun _ _ h=>h) _ _ (hE m),hd,hn,fun i hi=>?_,by simp only[VR]⟩
  .exact⟨b',_,hgb,setRow_heap w b' _ _ T (0,0) hb,VRs.grow hMn (fun _ _ h=>h) _ _ (hvs.setR off hcv hfit)⟩
  .by_cases e:i=oo
   .subst e
    have:i<H.length:=by rw[<-hS.len];exact(List.getElem?_eq_some_iff.1 hg).1
    exact⟨_,getElem?_set_self this,rfl⟩
   .obtain⟨vs',h,hkt⟩:=hkp i hi
    exact⟨vs',by rw[getElem?_set_ne (Ne.symm e)];exact h,hkt⟩
 .rename_i oo sz i off hox
  split at hok
  rotate_left
  .exact hok.elim
  rename_i T sz' rows fx hob
  split at hok
  rotate_left
  .exact hok.elim
  rename_i ds hds
  obtain⟨hcell,hone,hsz,rfl,hi,hfit⟩:=hok;rw[hox]at hvx;simp only[VR]at hvx;obtain⟨g,b,n,cap,hg,hgb,hsv,hax⟩:=hvx;obtain⟨hlim,xs,hxs,hh⟩:=hS.bufOb hob hg
  rcases hh with⟨_,_,h3⟩|⟨b',cap',cur,fr,h1,h2,hb,hfr,h4,h5,h6,h7⟩
  .rw[hgb]at h3;cases h3
  obtain rfl:b'=b:=by rw[hgb]at h2;exact(Option.some.inj h2).symm
  have hcv:=vO hvy hcell;have hdd:=lj hcv hds;have hcl:=hdd.length;have hxl:=hxs.length
  have hpos:i*sz+off+(a.eval y).cells.toList.length<=rows.length*sz:=by
   have:(i+1)*sz<=rows.length*sz:=Nat.mul_le_mul_right _ hi;rw[Nat.add_mul]at this;omega
  have hcur:rows.length*sz<=cur.size:=Nat.le_trans (Nat.mul_le_mul_right _ h4) h6;have hst:=GI (P:=C.P) b' (i*sz+off) T fr (a.eval y).cells.toList 0 cur w hb hfr (by omega) (CY hcv hone)
  have hsize:¬ (a.eval y).cells.size≠ti.size:=by simp at hcl;omega
  have hrun:(Instr.storeAt t (a.eval x) (a.eval y)).run C.P w=.ok () (w.setRow b' (eP cur.toList (i*sz+off+0) (a.eval y).cells.toList).toArray):=by
   simp only[hax,Instr.storeAt,Instr.sureAddr,Sem.run_bind,Sem.run_pure,Result.andThen_ok,storeVar,run_sizeOf w ht,if_neg hsize];exact hst
  refine⟨undef,_,.inr ⟨by obtain⟨dst,op,ty,pos,af,gd⟩:=o;cases ho;exact CN hrun,rfl⟩,?_⟩;have hMn:Mn K K w.heap (w.setRow b' (eP cur.toList (i*sz+off+0) (a.eval y).cells.toList).toArray).heap:=⟨fun _ h=>h,fun i hi=>xM w b' _ i fun e=>(hS.gb oo g b' hg hgb).2 (e ▸ hi)⟩;refine⟨K,G,hX.trans (Ext.modA C.kp hg hgb rfl ⟨rfl,fun _=>Nat.le_refl _⟩ rfl (by simp) (xM w b' _)),hS.modA hg hgb (by simp) (xM w b' _) ?_,fun m=>VR.grow hMn (fun _ _ h=>h) _ _ (hE m),hd,hn,fun i hi=>?_,by simp only[VR]⟩
  .have hlen:(eP cur.toList (i*sz+off) (a.eval y).cells.toList).length=cur.size:=by rw[B4 _ _ _ (by simp at hpos|-;omega)];simp
   have hrl:(rows.getD i []).length=sz:=BI hxs _ (by rw[getD_eq_getElem?_getD,getElem?_eq_getElem hi];exact getElem_mem hi);rw[kw];refine⟨by simpa using hlim,_,DRss.mono hMn _ _ _ (by rw[HR hrl];exact hxs.set i off hdd hi (by omega)),.inr ⟨b',cap',_,fr,by rw[length_set];exact h1,hgb,setRow_heap w b' _ _ T fr hb,?_,by rw[length_set];exact h4,h5,?_,?_⟩⟩
   .simp only[Nat.add_zero,size_toArray,hlen];exact hfr
   .simp only[Nat.add_zero,size_toArray,hlen];exact h6
   .simp only[Nat.add_zero,length_set]
    rw[<-h7,rG _ _ _ (by simp at hpos|-;omega),rG _ _ _ (by simp at hpos hcur|-;omega)];simp only[Array.length_toList];rw[take_append,take_of_length_le (by simp;omega)];simp only[length_append,length_take,Array.length_toList];rw[take_take,drop_take]
    congr 1
    .rw[Nat.min_eq_left (by omega)]
    .congr 1
     simp at hpos;omega
  .by_cases e:i=oo
   .subst e
    obtain⟨vs',h,hkt⟩:=hkp i hi
    rw[H6 hob]at h;cases h
    refine⟨_,getElem?_set_self (by rw[<-hS.len];exact(List.getElem?_eq_some_iff.1 hg).1),?_⟩;cases fx
    .cases hkt
    .rfl
   .obtain⟨vs',h,hkt⟩:=hkp i hi
    exact⟨vs',by rw[getElem?_set_ne (Ne.symm e)];exact h,hkt⟩
 .exact hok.elim

theorem CX{K:Nat->Prop}{G:List Gh}(hX:Ext C.kp C.K0 C.G0 C.w0 K G w)(hS:St K G H w)(hE:ig K w.heap G a E)(hd:a.defers=[])(hnn:a.tmps.size=C.n)(hk:fC C.kp H){w1:World}(hw1:w1=w∨w1=w.drew){cs:Array Value}{T:TypeId}{fr:Nat×Nat}{sz n cap:Nat}{rows:List (List Dt)}{xs:List Value}
  (hx:DRss K w.heap sz xs rows) (hn:rows.length=n) (hlim:n<=eh) (hfr:Free fr cs.size) (hle:n<=cap) (hcap:cap<=maxLen) (hcs:cs.size=cap*sz) (htake:cs.toList.take (n*sz)=xs) :
  RelV C E (H++[.buf T sz rows]) (.slice (some ⟨w.heap.size,0,none⟩) n cap) (.buf H.length) a (w1.alloc (.cells cs T fr)):=by
 subst hn
 have hS1:St K G H w1:=by
  rcases hw1 with rfl|rfl
  .exact hS
  .exact⟨hS.len,hS.kb,hS.gbo,hS.ijo,hS.ob,hS.tb⟩
 have hh1:w1.heap=w.heap:=by rcases hw1 with rfl|rfl <;> rfl
 have hX1:Ext C.kp C.K0 C.G0 C.w0 K G w1:=by
  rcases hw1 with rfl|rfl
  .exact hX
  .exact { hX with tape:=⟨hX.tape.1,fun m=>Nat.le_succ_of_le (hX.tape.2 m)⟩ }
 have hsz1:w1.heap.size=w.heap.size:=by rw[hh1]
 have hM:Mn K K w.heap (w1.alloc (.cells cs T fr)).heap:=⟨fun _ h=>h,fun b hb=>by rw[heap_alloc_old w1 _ (by rw[hsz1];exact hS.kb b hb),hh1]⟩
 have hG:∀(o:Nat) (g:Gh),G[o]?=some g->(G++[⟨some w1.heap.size,.slice (some ⟨w.heap.size,0,none⟩) rows.length cap,[]⟩])[o]?=some g:=fun o g hg=>Mg.push G _ o g rfl hg
 refine⟨K,G++[⟨some w1.heap.size,.slice (some ⟨w.heap.size,0,none⟩) rows.length cap,[]⟩],hX1.trans (Ext.push C.kp _ _),hS1.push (x:=.buf T sz rows) ?_,fun m=>VR.grow hM hG _ _ (hE m),hd,hnn,fun o ho=>?_,?_⟩
 .exact⟨hlim,xs,DRss.mono hM _ _ _ hx,.inr ⟨w.heap.size,cap,cs,fr,rfl,by rw[hsz1],by rw[<-hsz1];exact heap_alloc_new w1 _,hfr,hle,hcap,Nat.le_of_eq hcs.symm,htake⟩⟩
 .obtain⟨vs',hvs',hkt⟩:=hk o ho
  exact⟨vs',by rw[getElem?_append_left (List.getElem?_eq_some_iff.1 hvs').1];exact hvs',hkt⟩
 .simp only[VR]
  refine⟨⟨some w1.heap.size,.slice (some ⟨w.heap.size,0,none⟩) rows.length cap,[]⟩,?_,rfl,_,_,_,rfl⟩;rw[<-hS.len,getElem?_append_right (Nat.le_refl _)];simp

set_option linter.unusedVariables false in
theorem s7{K:Nat->Prop}{G:List Gh}(hX:Ext C.kp C.K0 C.G0 C.w0 K G w)(hS:St K G H w)(hE:ig K w.heap G a E)(hd:a.defers=[])(hnn:a.tmps.size=C.n)(hk:fC C.kp H){w1:World}(hw1:w1=w∨w1=w.drew){cs:Array Value}{T:TypeId}{fr:Nat×Nat}{sz n cap:Nat}{rows:List (List Dt)}{xs:List Value}
  (hx:DRss K w.heap sz xs rows) (hn:rows.length=n) (hlim:n<=eh) (hfr:Free fr cs.size) (hle:n<=cap) (hcap:cap<=maxLen) (hcs:cs.size=cap*sz) (htake:cs.toList.take (n*sz)=xs) :
  RelV C E H (.slice (some ⟨w.heap.size,0,none⟩) n cap) (.p (.l rows)) a (w1.alloc (.cells cs T fr)):=by
 subst hn
 have hS1:St K G H w1:=by
  rcases hw1 with rfl|rfl
  .exact hS
  .exact⟨hS.len,hS.kb,hS.gbo,hS.ijo,hS.ob,hS.tb⟩
 have hh1:w1.heap=w.heap:=by rcases hw1 with rfl|rfl <;> rfl
 have hX1:Ext C.kp C.K0 C.G0 C.w0 K G w1:=by
  rcases hw1 with rfl|rfl
  .exact hX
  .exact { hX with tape:=⟨hX.tape.1,fun m=>Nat.le_succ_of_le (hX.tape.2 m)⟩ }
 have hsz1:w1.heap.size=w.heap.size:=by rw[hh1]
 have hM:Mn K (fun b=>K b∨b=w1.heap.size) w.heap (w1.alloc (.cells cs T fr)).heap:=⟨fun _ h=>.inl h,fun b hb=>by rw[heap_alloc_old w1 _ (by rw[hsz1];exact hS.kb b hb),hh1]⟩;refine⟨fun b=>K b∨b=w1.heap.size,G,hX1.trans (Ext.pushK C.kp _),hS1.pushK _,fun m=>VR.grow hM (fun _ _ h=>h) _ _ (hE m),hd,hnn,hk,?_⟩;simp only[VR,DR];refine .inr ⟨w.heap.size,0,cap,cs,T,fr,sz,xs,rfl,.inr (by rw[hsz1]),by rw[<-hsz1];exact heap_alloc_new w1 _,hle,hlim,fun j v hj=>?_,DRss.mono hM _ _ _ hx⟩;rw[Nat.zero_add,<-Array.getElem?_toList];have hlt:=(List.getElem?_eq_some_iff.1 hj).1;rw[<-htake]at hj hlt;rw[length_take]at hlt;rw[getElem?_take_of_lt (by omega)]at hj;exact hj
theorem jO{K:Nat->Prop}{h:Array Obj}{k:IntKind}:∀{zs:List Value},uS k zs=true->DRss K h 1 zs (List.replicate zs.length [.i k 0])
 |[],_=>by simp[DRss]
 |z::zs,hz=>by
  cases z <;> simp only[uS]at hz <;> try (cases hz)
  rename_i k' n
  simp only[Bool.and_eq_true,decide_eq_true_eq]at hz;obtain⟨⟨rfl,rfl⟩,hz⟩:=hz;simp only[length_cons,replicate_succ,DRss];refine⟨[_],zs,rfl,rfl,?_,jO hz⟩;simp only[DRs,DR];exact⟨_,[],rfl,⟨rfl,cH k'⟩,rfl⟩
theorem df{T:TypeId}{sz n cap:Nat}{rows:List (List Dt)}{b o:Nat}(h:RelV C E H (.slice (some ⟨b,0,none⟩) n cap) (.buf o) a w)(ho:H[o]?=some (.buf T sz rows))(h0:0<n):RelV C E H (.pointer (some ⟨b,0,none⟩)) (.ptr o 0) a w:=by
 obtain⟨K,G,h1,hS,h3,h4,h5,h6,hv⟩:=h;refine⟨K,G,h1,hS,h3,h4,h5,h6,?_⟩;simp only[VR]at hv|-;obtain⟨g,hg,hsv,_⟩:=hv;obtain⟨hlim,xs,hxs,hh⟩:=hS.ob _ g _ hg ho
 rcases hh with⟨⟨a',h1⟩,_,_⟩|⟨b',cap2,cur,fr,hsv2,hgb,_⟩
 .rw[<-hsv]at h1;cases h1;omega
 .rw[<-hsv]at hsv2
  cases hsv2;exact⟨g,b,hg,hgb,rfl⟩
theorem uR(hR:Rel C E H a w)(o:Oper){t:TypeId}(ho:o.op=.alloc t)(hok:(xv C.P E H t).ok):fW C o a w (xv C.P E H t).v (xv C.P E H t).E (xv C.P E H t).H:=by
 unfold xv at hok|-;split at hok
 rotate_left
 .exact hok.elim
 rename_i ti ht
 obtain⟨z,hz,hzc⟩:=KA w ht;refine⟨_,_,.inl (by simp[execOp,ho,Instr.alloc,hz,newVar,newRow];exact⟨rfl,rfl⟩),?_⟩;split at hok
 .rename_i k n hka
  obtain⟨h1,h2,h3⟩:=hok;obtain⟨K,G,hX,hS,hE,hd,hnn,hkp⟩:=hR
  have hn:8<n:=by
   unfold uL at hka;split at hka
   .split at hka
    .rename_i hh
     cases hb:decide (8<_) <;> rw[hb]at hka <;> simp only[cond_true,cond_false]at hka <;> cases hka
     exact of_decide_eq_true hb
    .cases hka
   .cases hka
  have hsz:z.cells.size=n:=by rw[<-Array.length_toList,hzc,h2]
  unfold eh at h3;refine df (n:=n) (cap:=n) (T:=t) (sz:=1) (rows:=List.replicate n [.i k 0]) ?_ (by simp) (by omega);refine CX (w1:=w) hX hS hE hd hnn hkp (.inl rfl) (xs:=ti.zero) ?_ (by simp) (by unfold eh;omega) (Free.zero _) (Nat.le_refl _) (by simp only[maxLen];omega) (by omega) (by rw[hzc];exact take_of_length_le (by omega))
  rw[<-h2];exact jO h1
 have:=Ia (T:=t) hR (cs:=z.cells.toList) (vs:=ti.zero.map cv) (fun K G _=>by rw[hzc];exact vL hok)
 simpa using this

theorem rc(hR:Rel C E H a w)(o:Oper){s d:TypeId}{x:Operand}(ho:o.op=.convert s d x)(hx:opOk true E x)(hok:(xy C.P E H s d (opnd E x)).ok) :
  fW C o a w (xy C.P E H s d (opnd E x)).v (xy C.P E H s d (opnd E x)).E (xy C.P E H s d (opnd E x)).H:=by
 have hvx:∀K G,ig K w.heap G a E->VR K w.heap G (a.eval x) (opnd E x):=fun K G hE=>zw hE rfl x hx
 unfold xy at hok|-;split at hok
 rotate_left
 .exact hok.elim
 rename_i e esz eb ez l hks hkd hxx
 split at hok
 rotate_left
 .exact hok.elim
 rename_i hke
 obtain rfl:esz=1:=hok;obtain⟨ti1,ht1,hk1⟩:=zH hks (by simp);obtain⟨ti2,ht2,hk2⟩:=zH hkd (by simp);obtain⟨ti3,ht3,hk3⟩:=zH hke (by simp);obtain⟨K,G,hX,hS,hE,hd,hnn,hkp⟩:=hR;have hl:=hvx K G hE;rw[hxx]at hl;simp only[VR,DR]at hl;obtain⟨hax,hlim⟩:=hl;have hrun:=run_bytes_of_string (P:=C.P) w s d e ⟨l.toArray⟩ (yp ht1 hk1) (iT ht2 hk2).1 (ip ht3 hk3)
 have hsz:(⟨l.toArray⟩:ByteArray).size=l.length:=by simp[ByteArray.size]
 rw[hsz]at hrun;have hge:=grownCap_ge w l.length 0 e;have hcm:=grownCap_le_maxLen w l.length 0 e (by simp only[maxLen];unfold eh at hlim;omega)
 have hbs:(bytesRow ⟨l.toArray⟩ (grownCap w l.length 0 e)).size=grownCap w l.length 0 e:=by simp[bytesRow,ByteArray.size];omega
 refine⟨_,_,.inl (by obtain⟨dst,op,ty,pos,af,gd⟩:=o;cases ho;exact qg (by rw[hax];exact hrun)),?_⟩;refine CX (w1:=w.drew) hX hS hE hd hnn hkp (.inr rfl) (xs:=l.map fun b=>Value.int .u8 b.toNat) (DRss.bytes l) (rj l) hlim ?_ hge hcm (by rw[hbs];omega) ?_
 .right
  simp only;omega
 .simp only[bytesRow,Nat.mul_one,Array.toList_append,Array.toList_map]
  rw[take_append_of_le_length (by simp)];exact take_of_length_le (by simp)

theorem mz{fr:Nat×Nat}{n:Nat}(h:Free fr n):Free (if fr.1 == fr.2 then(n,n+1)else(min fr.1 n,max fr.2 (n+1))) n:=by
 by_cases e:fr.1=fr.2
 .simp[e,Free]
 .rcases h with h|h
  .exact absurd h e
  .have:(fr.1 == fr.2)=false:=by simpa using e
   rw[this];simp only[Bool.false_eq_true,if_false,Free];right;omega
theorem wk(hR:Rel C E H a w)(o:Oper){s d:TypeId}{x:Operand}{oo:Nat}(ho:o.op=.convert s d x)(hx:opOk true E x)(hox:opnd E x=.buf oo)(hok:(gQ C.P E H s d oo).ok) :
  fW C o a w (gQ C.P E H s d oo).v (gQ C.P E H s d oo).E (gQ C.P E H s d oo).H:=by
 obtain⟨K,G,hX,hS,hE,hd,hn,hkp⟩:=hR;have hvx:=zw hE rfl x hx;rw[hox]at hvx;unfold gQ at hok|-;split at hok
 rotate_left
 .exact hok.elim
 rename_i e1 s1 b1 z1 e esz eb ez T sz rows hks hkd hob
 split at hok
 rotate_left
 .exact hok.elim
 rename_i hke
 obtain⟨rfl,hpos⟩:=hok;obtain⟨ti2,ht2,hk2⟩:=zH hkd (by simp);obtain⟨ti3,ht3,hk3⟩:=zH hke (by simp);have hu2:=(iT ht2 hk2).1;have hu3:=ip ht3 hk3;have hvx':=hvx;simp only[VR]at hvx;obtain⟨g,hg,hax,ad,m,cp,hsv0⟩:=hvx;have hob':=zn hob (by simp);obtain⟨hlim,xs,hxs,hh⟩:=hS.ob oo g _ hg hob'
 rcases hh with⟨_,h,_⟩|⟨b,cap,cur,fr,hsv,hgb,hb,hfr,h4,h5,h6,h7⟩
 .subst h;simp at hpos
 have hsh:w.shape? b=some (T,cur.size):=by simp[World.shape?,hb]
 have hb':(w.freeze ⟨b,cur.size,none⟩ 1).heap[b]?=some (.cells cur T (if fr.1 == fr.2 then(cur.size,cur.size+1)else(min fr.1 cur.size,max fr.2 (cur.size+1)))):=by
  obtain⟨f1,f2⟩:=fr;simp[World.freeze,Array.getElem?_modify,hb]
 have hfr':∀i,i≠b->(w.freeze ⟨b,cur.size,none⟩ 1).heap[i]?=w.heap[i]?:=by
  intro i hi;simp[World.freeze,Array.getElem?_modify,Ne.symm hi]
 have hsz:(w.freeze ⟨b,cur.size,none⟩ 1).heap.size=w.heap.size:=by simp[World.freeze]
 have hos:(w.freeze ⟨b,cur.size,none⟩ 1).os=w.os/\Tp w (w.freeze ⟨b,cur.size,none⟩ 1)/\(w.freeze ⟨b,cur.size,none⟩ 1).output=w.output:=by simp[World.freeze,Tp]
 have hMn:Mn K K w.heap (w.freeze ⟨b,cur.size,none⟩ 1).heap:=⟨fun _ h=>h,fun i hi=>hfr' i fun e=>(hS.gb oo g b hg hgb).2 (e ▸ hi)⟩
 have hset:H.set oo (.buf T sz rows)=H:=by
  obtain⟨hl,he⟩:=List.getElem?_eq_some_iff.1 hob';rw[<-he];exact set_getElem_self hl
 have hS':=hS.modA (x:=.buf T sz rows) hg hgb hsz hfr' ⟨hlim,xs,DRss.mono hMn _ _ _ hxs,.inr ⟨b,cap,cur,_,hsv,hgb,hb',mz hfr,h4,h5,h6,h7⟩⟩;rw[hset]at hS'
 have hrun:(convert s s (a.eval x)).run C.P w=.ok (a.eval x) (w.freeze ⟨b,cur.size,none⟩ 1):=by
  rw[hax,hsv];simp[convert,run_underlying hu2,run_underlying hu3,markStringish,hsh]
 refine⟨a.eval x,w.freeze ⟨b,cur.size,none⟩ 1,.inl (by obtain⟨dst,op,ty,pos,af,gd⟩:=o;cases ho;exact qg hrun),K,G,hX.trans (Ext.modA C.kp hg hgb hos.1 hos.2.1 hos.2.2 hsz hfr'),hS',fun m=>VR.grow hMn (fun _ _ h=>h) _ _ (hE m),hd,hn,hkp,VR.grow hMn (fun _ _ h=>h) _ _ hvx'⟩
theorem ux(hR:Rel C E H a w)(o:Oper){s d:TypeId}{x:Operand}(ho:o.op=.convert s d x)(hx:opOk true E x)(hok:(xw C.P E H s d (opnd E x)).ok) :
  fW C o a w (xw C.P E H s d (opnd E x)).v (xw C.P E H s d (opnd E x)).E (xw C.P E H s d (opnd E x)).H:=by
 have h0:=fun hok=>rc (s:=s) (d:=d) hR o ho hx hok
 cases hox:opnd E x <;> simp only[hox,xw]at hok h0|- <;> first|exact h0 hok|exact wk hR o ho hx hox hok

theorem wI(hR:Rel C E H a w)(o:Oper){t:TypeId}{x y:Operand}(ho:o.op=.makeSlice t x y)(hx:opOk true E x)(hy:opOk true E y)(hok:(gT C.P E H t (opnd E x) (opnd E y)).ok) :
  fW C o a w (gT C.P E H t (opnd E x) (opnd E y)).v (gT C.P E H t (opnd E x) (opnd E y)).E (gT C.P E H t (opnd E x) (opnd E y)).H:=by
 have hvx:∀K G,ig K w.heap G a E->VR K w.heap G (a.eval x) (opnd E x):=fun K G hE=>zw hE rfl x hx
 have hvy:∀K G,ig K w.heap G a E->VR K w.heap G (a.eval y) (opnd E y):=fun K G hE=>zw hE rfl y hy
 unfold gT at hok|-;split at hok
 rotate_left
 .exact hok.elim
 rename_i e esz eb ez hk
 split at hok
 rotate_left
 .exact hok.elim
 rename_i z kl n kc m hz hxx hyy
 obtain⟨hzk,hel,h0,hn0,hnm,hml,heb⟩:=hok;obtain⟨ti,ht,hk'⟩:=zH hk (by simp);obtain⟨hu,⟨i,hi1,hi2,hi3⟩,hez⟩:=iT ht hk';obtain⟨K,G,hX,hS,hE,hd,hnn,hkp⟩:=hR;have hl:=hvx K G hE;have hm:=hvy K G hE;rw[hxx]at hl;rw[hyy]at hm;simp only[VR,DR]at hl hm
 have hzi:∃zv,i.zero=some zv/\zv.cells.toList=ez:=by
  unfold vb at hez;rw[hi1]at hez;simp at hez;exact hez
 obtain⟨zv,hzv,hzc⟩:=hzi;unfold eh at hml
 have hbytes:(i.bytes:Int)*m<=281474976710656:=by
  rw[hi3];have h1:(eb:Int)*m<=512*m:=Int.mul_le_mul_of_nonneg_right (by omega) (by omega);omega
 have hrun:=run_make (P:=C.P) w t e i zv hu hi1 hzv kl kc n m hn0 hnm hbytes (by omega);rw[hi2]at hrun;refine⟨_,_,.inl (by obtain⟨dst,op,ty,pos,af,gd⟩:=o;cases ho;exact qg (by rw[hl.1,hm.1];exact hrun)),?_⟩;have hmade:=C0 (z:=zv.cells) (by rw[hzc];exact hel) h0 m.toNat
 have hlenrep:∀n:Nat,((List.replicate n zv.cells.toList).flatten).length=n*esz:=by
  intro n
  induction n with
  |zero=>simp
  |succ n ih=>rw[replicate_succ,flatten_cons,length_append,ih,hzc,hel,Nat.add_mul];omega
 refine CX (w1:=w) hX hS hE hd hnn hkp (.inl rfl) (xs:=(List.replicate n.toNat zv.cells.toList).flatten) ?_ (by simp) (by unfold eh;omega) (Free.zero _) (by omega) (by simp only[maxLen];omega) (size_madeCells _ _) ?_
 .have hzd:DRs K w.heap ez z:=lj (vL (G:=G) hzk) hz
  have hzl:=hzd.length;have:=DRss.replicate hzd n.toNat;rw[hzc]
  rwa [show z.length=esz by omega]at this
 .rw[hmade]
  have:m.toNat=n.toNat+(m.toNat-n.toNat):=by omega
  rw[this,<-replicate_append_replicate,flatten_append,take_append_of_le_length (by rw[hlenrep];exact Nat.le_refl _)];exact take_of_length_le (by rw[hlenrep];exact Nat.le_refl _)
theorem JU{K:Nat->Prop}{h:Array Obj}{G:List Gh}:∀{parts:List (Nat×Va)} {ps:List (Nat×Value)} {i:Nat} {cs:Array Value} {vs:List Va},
  qD i parts=some vs->(ps.map (·.1)=parts.map (·.1))->(∀(j:Nat) (c:Value) (v:Va),(ps[j]?.map fun x=>x.2)=some c->(parts[j]?.map fun x=>x.2)=some v->VR K h G c v)->i+vs.length=cs.size ->
  ∃cs',Instr.fill (fun i=>some (i*1,1)) cs ps=some cs'/\∃xs,cs'.toList=cs.toList.take i++xs/\VRs K h G xs vs
 |[],ps,i,cs,vs,hf,hp,_,hl=>by
  simp only[qD]at hf;cases hf
  cases ps with
  |nil=>exact⟨cs,rfl,[],by rw[append_nil,take_of_length_le (by simp at hl;simp[hl])],by simp only[VRs]⟩
  |cons a b=>simp at hp
 |(j,v)::parts,ps,i,cs,vs,hf,hp,hv,hl=>by
  cases ps with
  |nil=>simp at hp
  |cons a ps =>
   obtain⟨j',c⟩:=a;simp only[map_cons,List.cons.injEq]at hp;obtain⟨rfl,hp⟩:=hp;simp only[qD]at hf;cases hcd:decide (j'=i)&&(v.isCell&&!ol v)
   .rw[hcd]at hf;cases hf
   rw[hcd,cond_true]at hf;simp only[Bool.and_eq_true,decide_eq_true_eq,Bool.not_eq_true']at hcd;obtain⟨rfl,hcell,hna⟩:=hcd;split at hf
   rotate_left
   .cases hf
   rename_i vs' hvs
   cases hf;simp only[length_cons]at hl;have h0:VR K h G c v:=hv 0 c v rfl rfl;have h1:c.oneCell'=true:=h0.one hcell (fun us e=>by subst e;cases hna)
   have hcc:c.cells=#[c]:=by cases c <;> first|rfl|cases h1
   obtain⟨cs',e1,xs,e2,e3⟩:=JU (cs:=cs.setIfInBounds j' c) hvs hp (fun k c v hk hk'=>hv (k+1) c v (by simpa using hk) (by simpa using hk')) (by simp;omega);refine⟨cs',?_,c::xs,?_,?_⟩
   .simp only[Instr.fill,hcc]
    rw[if_neg (by simp;omega)]
    simpa using e1
   .rw[e2,Array.toList_setIfInBounds]
    have hj:j'<cs.toList.length:=by simp;omega
    rw[take_add_one,getElem?_set_self hj,take_set_of_le (Nat.le_refl _)];simp
   .simp only[VRs]
    exact⟨c,xs,rfl,h0,e3⟩
theorem xg(hR:Rel C E H a w)(o:Oper){t:TypeId}{n:Nat}{ps:Array (Nat×Operand)}(ho:o.op=.buildSlice t n ps)(hok:(gY C.P E H t n ps.toList).ok) :
  fW C o a w (gY C.P E H t n ps.toList).v (gY C.P E H t n ps.toList).E (gY C.P E H t n ps.toList).H:=by
 unfold gY at hok|-;split at hok
 rotate_left
 .exact hok.elim
 rename_i e esz eb ez hk
 split at hok
 rotate_left
 .exact hok.elim
 rename_i vs hvs
 obtain⟨hps,hel,hz1,h0,hsm,hln⟩:=hok;obtain⟨ti,ht,hk'⟩:=zH hk (by simp);obtain⟨hu,⟨i,hi1,hi2,hi3⟩,hez⟩:=iT ht hk';have hR0:=hR;obtain⟨K,G,hX,hS,hE,hd,hn,hkp⟩:=hR
 have hzv:∃zv,(zeroValue e).run C.P w=.ok zv w/\zv.cells.toList=ez:=by
  unfold vb at hez;rw[hi1]at hez;simp at hez;obtain⟨zv,hz1,hz2⟩:=hez;exact⟨zv,by simp[zeroValue,typeInfo,hi1,hz1],hz2⟩
 obtain⟨zv,hzr,hzc⟩:=hzv
 have hlen:(madeCells zv.cells (n*esz)).size=n:=by simp[madeCells,hz1]
 have hfl:∀K' G',ig K' w.heap G' a E->∃cs',Instr.fill (fun i=>some (i*esz,esz)) (madeCells zv.cells (n*esz)) (ps.map fun x=>(x.1,a.eval x.2)).toList=some cs'/\VRs K' w.heap G' cs'.toList vs:=by
  intro K' G' hE';obtain⟨hp1,hp2⟩:=FU hE' rfl ps.toList hps;obtain⟨cs',e1,xs,e2,e3⟩:=JU (cs:=madeCells zv.cells (n*esz)) (ps:=(ps.map fun x=>(x.1,a.eval x.2)).toList) hvs (by simpa using hp1) (by simpa using hp2) (by rw[hlen,hln,Nat.zero_add]);refine⟨cs',by subst hz1;exact e1,?_⟩;rw[e2,take_zero,nil_append];exact e3
 obtain⟨cs',hf,hvv⟩:=hfl K G hE;have hes:(sizeOf e).run C.P w=.ok esz w:=lr (by simp[gO,hi1,hi2])
 have hsm':¬ (n*esz > 2^24):=by omega
 have hrun:(Instr.buildSlice t n (ps.map fun x=>(x.1,a.eval x.2))).run C.P w=.ok (.slice (some ⟨w.heap.size,0,none⟩) n n) (w.alloc (.cells cs' e)):=by
  have hnz:∀z':Array Value,z'.toList=ez->(Array.range (n*esz)).map (fun x=>z'[x % z'.size]!)=madeCells z' (n*esz):=fun _ _=>rfl
  have hn0:¬ n*esz=0:=by rw[hz1];omega
  simp only[Instr.buildSlice,run_underlying hu,hes,Sem.run_bind,Result.andThen_ok,if_neg hsm',Sem.run_pure,if_neg hn0,hzr,hnz _ hzc,hf,newRow,run_newObj];rfl
 refine⟨_,_,.inl (by obtain⟨dst,op,ty,pos,af,gd⟩:=o;cases ho;exact qg hrun),?_⟩
 obtain⟨K',G',hX',hS',hE',hd',hn',hk',hv'⟩:=Ia (T:=e) hR0 (cs:=cs'.toList) (vs:=vs) (fun K' G' hE'=>by
  obtain⟨cs2,hf2,hv2⟩:=hfl K' G' hE';rw[hf]at hf2;cases hf2
  exact hv2)
 refine⟨K',G',hX',by simpa using hS',by simpa using hE',hd',hn',hk',?_⟩;simp only[VR]at hv'|-;obtain⟨g,b,h1,h2,h3⟩:=hv';refine⟨g,b,h1,h2,?_⟩;simp only[Value.pointer.injEq,Option.some.injEq,Addr.mk.injEq]at h3;rw[h3.1]
theorem A6(hR:Rel C E H a w)(o:Oper){t:TypeId}{n:Nat}{ps:Array (Nat×Operand)}(ho:o.op=.buildSlice t n ps)(hok:(m5 C.P E H t n ps.toList).ok) :
  fW C o a w (m5 C.P E H t n ps.toList).v (m5 C.P E H t n ps.toList).E (m5 C.P E H t n ps.toList).H:=by
 unfold m5 at hok|-;cases hpsl:wt C.P t
 rotate_left
 .rw[hpsl,cond_true]at hok
  rw[cond_true];exact xg hR o ho hok
 rw[hpsl,cond_false]at hok;rw[cond_false];split at hok
 rotate_left
 .exact hok.elim
 rename_i e esz eb ez hk
 split at hok
 rotate_left
 .exact hok.elim
 rename_i z hz
 split at hok
 rotate_left
 .exact hok.elim
 rename_i rows hrows
 have hok':partsOk true E ps.toList/\nC ez/\ez.length=esz/\0<esz/\n*esz<=16777216/\n<=eh:=by
  cases hb:tf C.P e n <;> simpa only[hb,cond_true,cond_false]using hok
 clear hok;obtain⟨hps,hzk,hel,h0,hsm,hlim⟩:=hok';obtain⟨ti,ht,hk'⟩:=zH hk (by simp);obtain⟨hu,⟨i,hi1,hi2,hi3⟩,hez⟩:=iT ht hk';obtain⟨K,G,hX,hS,hE,hd,hn,hkp⟩:=hR
 -- the zero
 have hzv:∃zv,(zeroValue e).run C.P w=.ok zv w/\zv.cells.toList=ez:=by
  unfold vb at hez;rw[hi1]at hez;simp at hez;obtain⟨zv,hz1,hz2⟩:=hez;exact⟨zv,by simp[zeroValue,typeInfo,hi1,hz1],hz2⟩
 obtain⟨zv,hzr,hzc⟩:=hzv;have hzd:DRs K w.heap ez z:=lj (vL (G:=G) hzk) hz;have hzl:=hzd.length
 have hrep:DRss K w.heap esz (madeCells zv.cells (n*esz)).toList (List.replicate n z):=by
  rw[C0 (by rw[hzc];exact hel) h0,hzc];have:=DRss.replicate hzd n
  rwa [show z.length=esz by omega]at this
 obtain⟨hp1,hp2⟩:=FU hE rfl ps.toList hps;obtain⟨cs',hf,hrd,hrl⟩:=Ig (ps:=(ps.map fun x=>(x.1,a.eval x.2)).toList) hrows hrep (by simpa using hp1) (by simpa using hp2);have hes:(sizeOf e).run C.P w=.ok esz w:=lr (by simp[gO,hi1,hi2])
 have hsm':¬ (n*esz > 2^24):=by omega
 have hrun:(Instr.buildSlice t n (ps.map fun x=>(x.1,a.eval x.2))).run C.P w=.ok (.slice (some ⟨w.heap.size,0,none⟩) n n) (w.alloc (.cells cs' e)):=by
  have hnz:∀z':Array Value,z'.toList=ez->(Array.range (n*esz)).map (fun x=>z'[x % z'.size]!)=madeCells z' (n*esz):=fun _ _=>rfl
  by_cases hn0:n*esz=0
  .have hcs0:(Array.range (n*esz)).map (fun x=>(#[]:Array Value)[x % (#[]:Array Value).size]!)=madeCells zv.cells (n*esz):=by rw[hn0];apply Array.ext';simp[madeCells]
   simp only[Instr.buildSlice,run_underlying hu,hes,Sem.run_bind,Result.andThen_ok,if_neg hsm',Sem.run_pure,if_pos hn0,hcs0,hf,newRow,run_newObj];rfl
  .simp only[Instr.buildSlice,run_underlying hu,hes,Sem.run_bind,Result.andThen_ok,if_neg hsm',Sem.run_pure,if_neg hn0,hzr,hnz _ hzc,hf,newRow,run_newObj]
   rfl
 have hlen:rows.length=n:=by simpa using hrl
 refine⟨_,_,.inl (by obtain⟨dst,op,ty,pos,af,gd⟩:=o;cases ho;exact qg hrun),?_⟩;cases hb:tf C.P e n
 rotate_left
 .simp only[cond_true]
  have hcl:=hrd.length;simp only[Array.length_toList]at hcl;exact CX (w1:=w) hX hS hE hd hn hkp (.inl rfl) (xs:=cs'.toList) hrd hlen hlim (Free.zero _) (Nat.le_refl _) (by simp only[maxLen];unfold eh at hlim;omega) (by rw[hcl,hlen]) (by rw[take_of_length_le];simp only[Array.length_toList];rw[hcl,hlen];exact Nat.le_refl _)
 simp only[cond_false];have hMn:Mn K (fun b=>K b∨b=w.heap.size) w.heap (w.alloc (.cells cs' e)).heap:=⟨fun _ h=>.inl h,fun b hb=>heap_alloc_old w _ (hS.kb b hb)⟩;refine⟨fun b=>K b∨b=w.heap.size,G,hX.trans (Ext.pushK C.kp _),hS.pushK _,fun m=>VR.grow hMn (fun _ _ h=>h) _ _ (hE m),hd,hn,hkp,?_⟩;simp only[VR,DR];refine⟨.inr ⟨w.heap.size,0,n,cs',e,(0,0),esz,cs'.toList,by rw[hlen],.inr rfl,heap_alloc_new w _,by omega,by omega,fun j v hj=>by rw[Nat.zero_add,<-Array.getElem?_toList];exact hj,DRss.mono hMn _ _ _ hrd⟩,some ⟨w.heap.size,0,none⟩,by rw[hlen]⟩
end
section
variable {C:Cx} {E:dY} {H:List Ob} {a:Act} {w:World}

theorem Ax(hR:Rel C E H a w)(o:Oper){t:TypeId}(ho:o.op=.makeMap t none)(hok:(l6 C.P E H t).ok):fW C o a w (l6 C.P E H t).v (l6 C.P E H t).E (l6 C.P E H t).H:=by
 obtain⟨K,G,hX,hS,hE,hd,hn,hk⟩:=hR;unfold l6 at hok|-;split at hok
 rotate_left
 .exact hok.elim
 rename_i kt et hkm
 have hM:=Mn.alloc hS.kb (.map #[] 0)
 have hG:∀(o:Nat) (g:Gh),G[o]?=some g->(G++[⟨some w.heap.size,undef,[]⟩])[o]?=some g:=fun o g hg=>Mg.push G _ o g rfl hg
 have hrun:(Instr.makeMap t none).run C.P w=.ok (.map (some w.heap.size)) (w.alloc (.map #[] 0)):=rfl;refine⟨_,_,.inl (by obtain⟨dst,op,ty,pos,af,gd⟩:=o;cases ho;exact qg hrun),?_⟩;refine⟨K,G++[⟨some w.heap.size,undef,[]⟩],hX.trans (Ext.push C.kp _ undef),hS.push (x:=.mp _ []) ?_,fun m=>VR.grow hM hG _ _ (hE m),hd,hn,fun o ho=>?_,?_⟩
 .exact⟨by simp,w.heap.size,#[],0,rfl,heap_alloc_new w _,by simp[MRs],MapKept.stamped_empty 0⟩
 .obtain⟨vs',hvs',hkt⟩:=hk o ho
  exact⟨vs',by rw[getElem?_append_left (List.getElem?_eq_some_iff.1 hvs').1];exact hvs',hkt⟩
 .simp only[VR]
  refine⟨⟨some w.heap.size,undef,[]⟩,w.heap.size,?_,rfl,rfl⟩;rw[<-hS.len,getElem?_append_right (Nat.le_refl _)];simp

theorem IH(w:World)(b:Nat)(o:Obj):∀i,i≠b->({ w with heap:=w.heap.setIfInBounds b o }:World).heap[i]?=w.heap[i]?:=fun i h=>by simp[Ne.symm h]
theorem Hr{K:Nat->Prop}{G:List Gh}(hX:Ext C.kp C.K0 C.G0 C.w0 K G w)(hS:St K G H w)(hE:ig K w.heap G a E)(hd:a.defers=[])(hn:a.tmps.size=C.n)(hk:fC C.kp H){oo b:Nat}{g:Gh}(hg:G[oo]?=some g)(hgb:g.blk=some b)
  {mes mes':Array MapEntry} {clock clock':Nat} {ag:Bool} {es':List (Dt×List Dt)} (hb:w.heap[b]?=some (.map mes clock)) (hlim:es'.length<=eh) (hm:MRs K w.heap ag mes'.toList es') (hst:MapKept.Stamped mes' clock') :
  RelV C E (H.set oo (.mp ag es')) undef .top a { w with heap:=w.heap.setIfInBounds b (.map mes' clock') }:=by
 have hlt:b<w.heap.size:=(Array.getElem?_eq_some_iff.1 hb).1;have hfr:=IH w b (.map mes' clock');have hMn:Mn K K w.heap (w.heap.setIfInBounds b (.map mes' clock')):=⟨fun _ h=>h,fun i hi=>hfr i fun e=>(hS.gb oo g b hg hgb).2 (e ▸ hi)⟩;refine⟨K,G,hX.trans (Ext.modA C.kp hg hgb rfl ⟨rfl,fun _=>Nat.le_refl _⟩ rfl (by simp) hfr),hS.modA hg hgb (by simp) hfr ?_,fun m=>VR.grow hMn (fun _ _ h=>h) _ _ (hE m),hd,hn,fun i hi=>?_,by simp only[VR]⟩
 .exact⟨hlim,b,mes',clock',hgb,by simp[hlt],hm.mono hMn,hst⟩
 .by_cases e:i=oo
  .subst e
   have:i<H.length:=by rw[<-hS.len];exact(List.getElem?_eq_some_iff.1 hg).1
   exact⟨_,getElem?_set_self this,rfl⟩
  .obtain⟨vs',h,hkt⟩:=hk i hi
   exact⟨vs',by rw[getElem?_set_ne (Ne.symm e)];exact h,hkt⟩
theorem p6{K:Nat->Prop}{h:Array Obj}{G:List Gh}{c:Value}{v:Va}{ag:Bool}{row:List Dt}(hv:VR K h G c v)(hc:v.isCell=true)(ha:Bj v=ag)(hd:DRs K h c.cells.toList row)(hl:ag=false->row.length=1):iz K h ag c row:=by
 cases ag with
 |true =>
  cases v <;> first|(simp[Bj]at ha;done)|skip
  rename_i vs
  simp only[VR]at hv;obtain⟨cs,rfl,_⟩:=hv;exact⟨cs,rfl,by simpa [Value.cells]using hd⟩
 |false =>
  have hone:=VR.one hv hc (by rintro vs rfl;simp[Bj]at ha);have hcs:=BU hone;rw[hcs]at hd
  match row,hl rfl with
  |[d],_ =>
   simp only[DRs]at hd;obtain⟨_,_,h1,h2,_⟩:=hd;cases h1;exact⟨d,rfl,h2⟩
theorem s5(hR:Rel C E H a w)(o:Oper){t:TypeId}{m k x:Operand}(ho:o.op=.mapUpdate t m k x∨o.op=.insert t m k x)(hm:opOk true E m)(hk:opOk true E k)(hx:opOk true E x)(hok:(i5 C.P E H t (opnd E m) (opnd E k) (opnd E x)).ok) :
  fW C o a w (i5 C.P E H t (opnd E m) (opnd E k) (opnd E x)).v (i5 C.P E H t (opnd E m) (opnd E k) (opnd E x)).E (i5 C.P E H t (opnd E m) (opnd E k) (opnd E x)).H:=by
 obtain⟨K,G,hX,hS,hE,hd,hn,hkp⟩:=hR;have hvm:=zw hE rfl m hm;have hvk:=zw hE rfl k hk;have hvx:=zw hE rfl x hx;unfold i5 at hok|-;split at hok
 rotate_left
 .exact hok.elim
 rename_i kt et oo d hkm hom hkv
 split at hok
 rotate_left
 .exact hok.elim
 rename_i ag es hob
 split at hok
 rotate_left
 .exact hok.elim
 rename_i row hrow
 obtain⟨h1,h2,h3,h4,h5,h6⟩:=hok;rw[hom]at hvm;have hvk:=CL hkv hvk;simp only[VR]at hvm;obtain⟨g,b,hg,hgb,ham⟩:=hvm;obtain⟨hlim,b',mes,clock,hb',hbm,hmr,hst⟩:=hS.ob oo g _ hg (zn hob (by simp))
 obtain rfl:b'=b:=by rw[hgb]at hb';exact(Option.some.inj hb').symm
 obtain⟨ti,ht,hk'⟩:=zH hkm (by simp);have hu:=yo ht hk';obtain⟨hck,hkeep,hfind⟩:=CV (P:=C.P) (w:=w) h2 hvk;have hcv:=lj (vO hvx h3) hrow;have hval:=p6 hvx h3 h4 hcv h5
 have fin:∀(mes':Array MapEntry) (clock':Nat),(Instr.mapUpdate t (a.eval m) (a.eval k) (a.eval x)).run C.P w=.ok () { w with heap:=w.heap.setIfInBounds b' (.map mes' clock') }->MRs K w.heap ag mes'.toList (fq es d row)->MapKept.Stamped mes' clock' ->
   fW C o a w .top E (H.set oo (.mp ag (fq es d row))):=by
  intro mes' clock' hr hmr' hst';refine⟨undef,_,.inr ⟨?_,rfl⟩,Hr hX hS hE hd hn hkp hg hgb (clock':=clock') hbm h6 hmr' hst'⟩;obtain⟨dst,op,ty,pos,af,gd⟩:=o
  rcases ho with ho|ho <;> (cases ho;exact CN hr)
 rcases hfind hmr h1 with⟨a1,a2,a3,_,a9⟩|⟨j,e,row',a1,a2,a3,a4,a5,a6,_⟩
 .refine fin (mes.push { key:=a.eval k,val:=a.eval x,born:=clock }) (clock+1) ?_ ?_ (MapKept.stamped_push hst a9)
  .rw[ham]
   simp[Instr.mapUpdate,run_underlying hu,MapKept.run_getObj_map hbm,hck,a1,MapKept.run_setObj_map _ hbm,Result.andThen]
  .rw[a3]
   simpa using MRs.append (e:={ key:=a.eval k,val:=a.eval x,born:=clock }) (p:=(d,row)) hvk hval hmr
 .have hj:mes[j]?=some e:=by simpa using a2
  refine fin (mes.modify j fun e=>{ e with key:=a.eval k,val:=a.eval x }) clock ?_ ?_ (MapKept.stamped_modify hst j _ (fun _ _=>rfl) (fun e' _ he'=>by rw[hj]at he';cases he';exact a3.symm))
  .rw[ham]
   simp[Instr.mapUpdate,run_underlying hu,MapKept.run_getObj_map hbm,hck,a1,hj,a3,hkeep,MapKept.run_setObj_map _ hbm,Result.andThen]
  .rw[a6]
   have hjl:=(Array.getElem?_eq_some_iff.1 hj).1
   have:(mes.modify j fun e=>{ e with key:=a.eval k,val:=a.eval x }).toList=mes.toList.set j { e with key:=a.eval k,val:=a.eval x }:=by
    apply ext_getElem?;intro i;rw[Array.getElem?_toList,Array.getElem?_modify]
    by_cases hij:j=i
    .subst hij
     rw[if_pos rfl,hj,getElem?_set_self (by simpa using hjl)];rfl
    .rw[if_neg hij,getElem?_set_ne hij,Array.getElem?_toList]
   rw[this];exact hmr.set (e:={ e with key:=a.eval k,val:=a.eval x }) (p:=(d,row)) hvk hval j
theorem AY(hR:Rel C E H a w)(o:Oper){c:Call}{m k:Operand}{t u:TypeId}(ho:o.op=.call c)(h1':c.callee=.builtin .delete)(h2':c.args.toList=[m,k])(h3':c.argTypes.toList=[t,u])(hm:opOk true E m)(hk:opOk true E k)(hok:(mR C.P E H t u (opnd E m) (opnd E k)).ok) :
  fW C o a w (mR C.P E H t u (opnd E m) (opnd E k)).v (mR C.P E H t u (opnd E m) (opnd E k)).E (mR C.P E H t u (opnd E m) (opnd E k)).H:=by
 obtain⟨K,G,hX,hS,hE,hd,hn,hkp⟩:=hR;have hvm:=zw hE rfl m hm;have hvk:=zw hE rfl k hk;unfold mR at hok|-;split at hok
 rotate_left
 .exact hok.elim
 rename_i kt et oo d hkm hom hkv
 split at hok
 rotate_left
 .rename_i ag es bs cl hob
  obtain⟨h1,h2⟩:=hok;rw[hom]at hvm;have hvk:=CL hkv hvk;simp only[VR]at hvm;obtain⟨g,b,hg,hgb,ham⟩:=hvm;obtain⟨hlim,b',mes,hb',hbm,hmr,hst,hborn⟩:=hS.ob oo g _ hg (zn hob (by simp))
  obtain rfl:b'=b:=by rw[hgb]at hb';exact(Option.some.inj hb').symm
  obtain⟨ti,ht,hk'⟩:=zH hkm (by simp);have hu:=yo ht hk';obtain⟨hck,hkeep,hfind⟩:=CV (P:=C.P) (w:=w) h2 hvk
  have fin:∀(mes':Array MapEntry),(Builtin.delete_ #[t,u] o.type #[a.eval m,a.eval k]).run C.P w=.ok (.tuple #[]) { w with heap:=w.heap.setIfInBounds b' (.map mes' cl) }->MRs K w.heap ag mes'.toList (ij es d)->(ij es d).length<=eh->MapKept.Stamped mes' cl->mes'.toList.map (·.born)=m8 es bs d ->
    fW C o a w .top E (H.set oo (.mpb ag (ij es d) (m8 es bs d) cl)):=by
   intro mes' hr hmr' hl hst' hbo;have hrel:=Hr hX hS hE hd hn hkp hg hgb (clock':=cl) hbm hl hmr' hst';refine⟨.tuple #[],{ w with heap:=w.heap.setIfInBounds b' (.map mes' cl) },.inl ?_,?_⟩
   .obtain⟨callee,args,argTypes⟩:=c
    obtain⟨dst,op,ty,pos,af,gd⟩:=o;cases ho;simp only at h1' h2' h3' hr;subst h1'
    have ha:args=#[m,k]:=by cases args;simp_all
    have hat:argTypes=#[t,u]:=by cases argTypes;simp_all
    subst ha;subst hat
    simp[execOp,resolve,invoke,builtin,hr]
   .have hlt:b'<w.heap.size:=(Array.getElem?_eq_some_iff.1 hbm).1
    have hfr:=IH w b' (.map mes' cl);have hMn:Mn K K w.heap (w.heap.setIfInBounds b' (.map mes' cl)):=⟨fun _ h=>h,fun i hi=>hfr i fun e=>(hS.gb oo g b' hg hgb).2 (e ▸ hi)⟩;refine⟨K,G,hX.trans (Ext.modA C.kp hg hgb rfl ⟨rfl,fun _=>Nat.le_refl _⟩ rfl (by simp) hfr),hS.modA hg hgb (by simp) hfr ?_,fun m=>VR.grow hMn (fun _ _ h=>h) _ _ (hE m),hd,hn,fun i hi=>?_,by simp only[VR]⟩
    .exact⟨hl,b',mes',hgb,by simp[hlt],hmr'.mono hMn,hst',hbo⟩
    .by_cases e:i=oo
     .subst e
      have:i<H.length:=by rw[<-hS.len];exact(List.getElem?_eq_some_iff.1 hg).1
      exact⟨_,getElem?_set_self this,rfl⟩
     .obtain⟨vs',h,hkt⟩:=hkp i hi
      exact⟨vs',by rw[getElem?_set_ne (Ne.symm e)];exact h,hkt⟩
  have hlen:es.length=bs.length:=by rw[<-hborn,length_map];exact hmr.length.symm
  rcases hfind hmr h1 with⟨a1,a2,a3,a4,a5⟩|⟨j,e,row',a1,a2,a3,a4,a5,a6,a7⟩
  .refine fin mes ?_ (by rw[a4];exact hmr) (by rw[a4];exact hlim) hst ?_
   .rw[ham]
    simp[Builtin.delete_,run_underlying hu,MapKept.run_getObj_map hbm,hck,a1,MapKept.run_setObj_map _ hbm,Result.andThen]
   .rw[hborn]
    have:∀(es:List (Dt×List Dt)) (bs:List Nat),(∀r,fq es d r=es++[(d,r)])->m8 es bs d=bs:=by
     intro es
     induction es with
     |nil=>intro bs _;cases bs <;> rfl
     |cons p es ih =>
      intro bs hs
      cases bs with
      |nil=>rfl
      |cons b bs =>
       simp only[fq,m8]at hs|-
       cases hq:fi p.1 d with
       |true =>
        simp only[hq,cond_true]at hs;have:=congrArg List.length (hs []);simp at this
       |false =>
        simp only[hq,cond_false]at hs|-;rw[ih bs fun r=>by have:=hs r;simpa using this]
    exact(this es bs a3).symm
  .refine fin (mes.eraseIdxIfInBounds j) ?_ ?_ ?_ (MapKept.stamped_erase hst j) ?_
   .rw[ham]
    simp[Builtin.delete_,run_underlying hu,MapKept.run_getObj_map hbm,hck,a1,MapKept.run_setObj_map _ hbm,Result.andThen]
   .have hjl:j<mes.size:=by have:=(List.getElem?_eq_some_iff.1 a2).1;simpa using this
    rw[a7,show(mes.eraseIdxIfInBounds j).toList=mes.toList.eraseIdx j by unfold Array.eraseIdxIfInBounds;rw[dif_pos hjl,Array.toList_eraseIdx]];exact hmr.erase j
   .rw[a7]
    have:(es.eraseIdx j).length<=es.length:=by rw[length_eraseIdx];split <;> omega
    omega
   .have hjl:j<mes.size:=by have:=(List.getElem?_eq_some_iff.1 a2).1;simpa using this
    have hme:∀(l:List MapEntry) (j:Nat),(l.eraseIdx j).map (·.born)=(l.map (·.born)).eraseIdx j:=by
     intro l
     induction l with
     |nil=>intro j;simp
     |cons x l ih=>intro j;cases j <;> simp[ih]
    rw[show(mes.eraseIdxIfInBounds j).toList=mes.toList.eraseIdx j by unfold Array.eraseIdxIfInBounds;rw[dif_pos hjl,Array.toList_eraseIdx],hme,hborn];exact(pZ hlen a6 (by rw[hlen,<-hborn,length_map];simpa using hjl)).symm
 .exact hok.elim
 rename_i ag es hob
 obtain⟨h1,h2⟩:=hok;rw[hom]at hvm;have hvk:=CL hkv hvk;simp only[VR]at hvm;obtain⟨g,b,hg,hgb,ham⟩:=hvm;obtain⟨hlim,b',mes,clock,hb',hbm,hmr,hst⟩:=hS.ob oo g _ hg (zn hob (by simp))
 obtain rfl:b'=b:=by rw[hgb]at hb';exact(Option.some.inj hb').symm
 obtain⟨ti,ht,hk'⟩:=zH hkm (by simp);have hu:=yo ht hk';obtain⟨hck,hkeep,hfind⟩:=CV (P:=C.P) (w:=w) h2 hvk
 have fin:∀(mes':Array MapEntry),(Builtin.delete_ #[t,u] o.type #[a.eval m,a.eval k]).run C.P w=.ok (.tuple #[]) { w with heap:=w.heap.setIfInBounds b' (.map mes' clock) }->MRs K w.heap ag mes'.toList (ij es d)->(ij es d).length<=eh->MapKept.Stamped mes' clock ->
   fW C o a w .top E (H.set oo (.mp ag (ij es d))):=by
  intro mes' hr hmr' hl hst';have hrel:=Hr hX hS hE hd hn hkp hg hgb (clock':=clock) hbm hl hmr' hst';refine⟨.tuple #[],{ w with heap:=w.heap.setIfInBounds b' (.map mes' clock) },.inl ?_,?_⟩
  .obtain⟨callee,args,argTypes⟩:=c
   obtain⟨dst,op,ty,pos,af,gd⟩:=o;cases ho;simp only at h1' h2' h3' hr;subst h1'
   have ha:args=#[m,k]:=by cases args;simp_all
   have hat:argTypes=#[t,u]:=by cases argTypes;simp_all
   subst ha;subst hat
   simp[execOp,resolve,invoke,builtin,hr]
  .obtain⟨K',G',r1,r2,r3,r4,r5,r6,_⟩:=hrel
   exact⟨K',G',r1,r2,r3,r4,r5,r6,by simp only[VR]⟩
 rcases hfind hmr h1 with⟨a1,a2,_,a4,_⟩|⟨j,e,row',a1,a2,a3,a4,a5,_,a7⟩
 .refine fin mes ?_ (by rw[a4];exact hmr) (by rw[a4];exact hlim) hst
  rw[ham];simp[Builtin.delete_,run_underlying hu,MapKept.run_getObj_map hbm,hck,a1,MapKept.run_setObj_map _ hbm,Result.andThen]
 .refine fin (mes.eraseIdxIfInBounds j) ?_ ?_ ?_ (MapKept.stamped_erase hst j)
  .rw[ham]
   simp[Builtin.delete_,run_underlying hu,MapKept.run_getObj_map hbm,hck,a1,MapKept.run_setObj_map _ hbm,Result.andThen]
  .have hjl:j<mes.size:=by have:=(List.getElem?_eq_some_iff.1 a2).1;simpa using this
   rw[a7,show(mes.eraseIdxIfInBounds j).toList=mes.toList.eraseIdx j by unfold Array.eraseIdxIfInBounds;rw[dif_pos hjl,Array.toList_eraseIdx]];exact hmr.erase j
  .rw[a7]
   have:(es.eraseIdx j).length<=es.length:=by rw[length_eraseIdx];split <;> omega
   omega
end
section
variable {C:Cx} {E:dY} {H:List Ob} {a:Act} {w:World}

theorem xr{K:Nat->Prop}{G:List Gh}(hS:St K G H w){c:Value}{x:Va}(hc:VR K w.heap G c x){rows:List (List Dt)}(hx:BB H x=some rows){u e:TypeId}{esz:Nat}(hok:rM C.P u esz e x rows){i:TypeInfo}(hi:i.size=esz) :
  ∃news d,C.P.underlying u=some d/\((∃k,d=.slice k)∨d=.string)/\nk C.P w i.size c rows.length news/\DRss K w.heap esz news rows:=by
 have sl:∀(hx:ym H x=some rows) (hok:eT esz rows/\match z7 C.P u with|.slice _ _ _ _=>True|_=>False),∃news d,C.P.underlying u=some d/\((∃k,d=.slice k)∨d=.string)/\nk C.P w i.size c rows.length news/\DRss K w.heap esz news rows:=by
  intro hx ⟨hszk,hkk⟩
  have:∃k es eb ez,z7 C.P u=.slice k es eb ez:=by
   split at hkk
   .exact⟨_,_,_,_,by assumption⟩
   .exact hkk.elim
  obtain⟨k,es,eb,ez,hk⟩:=this;obtain⟨ti,ht,hk'⟩:=zH hk (by simp);obtain⟨hlim,hh⟩:=HS hS hc hx
  rcases hh with⟨a,cap,rfl,rfl⟩|⟨b,off,cap,cs,T,fr,sz,vs,rfl,hb,hv,hd⟩
  .exact⟨[],_,(iT ht hk').1,.inl ⟨k,rfl⟩,⟨fun _=>rfl,fun _ _=>by cases a <;> simp[Builtin.firstCells,loadCells,loadCellsFrom],by simp⟩,by simp[DRss]⟩
  .rcases Classical.em (rows=[])with rfl|hne
   .refine⟨[],_,(iT ht hk').1,.inl ⟨k,rfl⟩,⟨fun _=>rfl,fun w' _=>?_,by simp⟩,by simp[DRss]⟩
    simp[Builtin.firstCells,loadCells,loadCellsFrom]
   .have hsz:=hd.sz hszk hne
    subst hsz;have hl:=hd.length;refine⟨vs,_,(iT ht hk').1,.inl ⟨k,rfl⟩,⟨fun _=>rfl,fun w' hw'=>?_,by rw[hl,hi]⟩,hd⟩;refine run_firstCells_some (P:=C.P) w' i.size rows.length _ _ _ vs (by rw[hl,hi]) (fun j v hj=>?_);rw[lc,cell_of_row w' b (off+j) cs T fr (by rw[hw'];exact hb)];exact hv j v hj
 unfold BB at hx;split at hx
 .rename_i l
  cases hx;simp only[rM]at hok;obtain⟨hk,rfl,hke⟩:=hok;obtain⟨ti,ht,hk'⟩:=zH hk (by simp);simp only[VR,DR]at hc;obtain⟨rfl,hlim⟩:=hc;refine⟨l.map fun b=>Value.int .u8 b.toNat,_,yp ht hk',.inr rfl,⟨fun _=>by simp[Builtin.lenOf,ByteArray.size,bR],fun w' _=>?_,by simp[bR,hi]⟩,DRss.bytes l⟩
  have e:(⟨l.toArray⟩:ByteArray).extract 0 (bR l).length=⟨l.toArray⟩:=by
   apply ByteArray.ext;rw[ByteArray.data_extract];simp[bR]
  simp only[Builtin.firstCells,e,Sem.run_pure];simp
 .rename_i hns
  have hok':eT esz rows/\match z7 C.P u with|.slice _ _ _ _=>True|_=>False:=by
   unfold rM at hok;split at hok
   .rename_i l;exact absurd rfl (hns l)
   .exact hok
  exact sl hx hok'

theorem J3{K:Nat->Prop}{h:Array Obj}:∀{rows:List (List Dt)} {vs:List Value},DRss K h 1 vs rows->fm rows->vs=(gf rows).map nJ/\(gf rows).length=rows.length
 |[],vs,hd,_=>by simp only[DRss]at hd;subst hd;exact⟨rfl,rfl⟩
 |[.i k n]::rs,vs,hd,ha=>by
  simp only[fm]at ha;obtain⟨rfl,ha⟩:=ha;simp only[DRss,DRs,DR]at hd;obtain⟨a,b,rfl,_,⟨v,vs',rfl,⟨rfl,hf⟩,rfl⟩,hd⟩:=hd;obtain⟨h1,h2⟩:=J3 hd ha;simp only[Fits,lo,hi]at hf;refine⟨?_,by simp[gf,h2]⟩;simp only[gf,map_cons,cons_append,nil_append,h1,nJ]
  congr 2
  rw[UInt8.toNat_ofNat'];omega
 |[]::_,_,_,ha=>by simp[fm]at ha
 |[.b _]::_,_,_,ha=>by simp[fm]at ha
 |[.s _]::_,_,_,ha=>by simp[fm]at ha
 |[.l _]::_,_,_,ha=>by simp[fm]at ha
 |[.a _]::_,_,_,ha=>by simp[fm]at ha
 |(_::_::_)::_,_,_,ha=>by simp[fm]at ha
theorem sR{c:Call}{x:Operand}(h1:c.callee=.builtin .unsafeSliceData)(h2:c.args.toList=[x]){o:Oper}(ho:o.op=.call c){v:Value}{w':World}
  (hr:∀ts,(Builtin.unsafeSliceData_ ts o.type #[a.eval x]).run C.P w=.ok v w'):(execOp a.eval o).run C.P w=.ok (.value v) w':=by
 obtain⟨callee,args,argTypes⟩:=c;obtain⟨dst,op,ty,pos,af,gd⟩:=o;cases ho;simp only at h1 h2 hr;subst h1
 have ha:args=#[x]:=by cases args;simp_all
 subst ha;simp[execOp,resolve,invoke,builtin,hr]
theorem sf{c:Call}{x y:Operand}{t u:TypeId}(h1:c.callee=.builtin .unsafeString)(h2:c.args.toList=[x,y])(h3:c.argTypes.toList=[t,u]){o:Oper}(ho:o.op=.call c){v:Value}{w':World}
  (hr:(Builtin.unsafeString_ #[t,u] o.type #[a.eval x,a.eval y]).run C.P w=.ok v w'):(execOp a.eval o).run C.P w=.ok (.value v) w':=by
 obtain⟨callee,args,argTypes⟩:=c;obtain⟨dst,op,ty,pos,af,gd⟩:=o;cases ho;simp only at h1 h2 h3 hr;subst h1
 have ha:args=#[x,y]:=by cases args;simp_all
 have ht:argTypes=#[t,u]:=by cases argTypes;simp_all
 subst ha;subst ht
 simp[execOp,resolve,invoke,builtin,hr]
theorem ED(hR:Rel C E H a w)(o:Oper){c:Call}{x:Operand}(h1:c.callee=.builtin .unsafeSliceData)(h2:c.args.toList=[x])(ho:o.op=.call c)(hx:opOk true E x)(hok:(EE H (opnd E x)).ok) :
  fW C o a w (EE H (opnd E x)).v E H:=by
 obtain⟨K,G,hX,hS,hE,hd,hn,hkp⟩:=hR;have hvx:=zw hE rfl x hx;unfold EE at hok|-;split at hok
 rotate_left
 .exact hok.elim
 rename_i oo hox
 split at hok
 rotate_left
 .exact hok.elim
 rename_i T bs hob
 rw[hox]at hvx;simp only[VR]at hvx;obtain⟨g,hg,hax,_⟩:=hvx;obtain⟨hlim,hh⟩:=hS.ob oo g _ hg (zn hob (by simp))
 rcases hh with⟨h1',rfl,_⟩|⟨b,cap,cur,fr,hsv,hgb,hb,hfr,h4,h5,h6,h7,h8⟩
 .refine⟨.pointer none,w,.inl (sR h1 h2 ho fun ts=>?_),K,G,hX,hS,hE,hd,hn,hkp,?_⟩
  .rw[hax,h1'];exact Lib.run_unsafeSliceData_nil w ts _ 0 0
  .simp only[VR];exact⟨g,none,0,0,hg,h1',rfl⟩
 .refine⟨.pointer (some ⟨b,0,none⟩),w,.inl (sR h1 h2 ho fun ts=>?_),K,G,hX,hS,hE,hd,hn,hkp,?_⟩
  .rw[hax,hsv];exact Lib.run_unsafeSliceData_row w ts _ _ _ cap (by omega)
  .simp only[VR];exact⟨g,_,_,_,hg,hsv,rfl⟩
theorem kK{fr:Nat×Nat}{n:Nat}(h:nq fr n):nq (if fr.1 == fr.2 then(0,n)else(min fr.1 0,max fr.2 n)) n:=by
 by_cases e:fr.1=fr.2
 .simp[e,nq]
 .rcases h with h|⟨h1,h2⟩
  .exact absurd h e
  .have:(fr.1 == fr.2)=false:=by simpa using e
   rw[this];simp only[Bool.false_eq_true,if_false,nq];right;omega
theorem D8(hR:Rel C E H a w)(o:Oper){c:Call}{x y:Operand}{t u:TypeId}(h1:c.callee=.builtin .unsafeString)(h2:c.args.toList=[x,y])(h3:c.argTypes.toList=[t,u])(ho:o.op=.call c)(hx:opOk true E x)(hy:opOk true E y)(hok:(D9 C.P H t (opnd E x) (opnd E y)).ok) :
  fW C o a w (D9 C.P H t (opnd E x) (opnd E y)).v E H:=by
 obtain⟨K,G,hX,hS,hE,hd,hn,hkp⟩:=hR;have hvx:=zw hE rfl x hx;have hvy:=zw hE rfl y hy;unfold D9 at hok|-;split at hok
 rotate_left
 .exact hok.elim
 rename_i oo k n hox hoy
 split at hok
 rotate_left
 .exact hok.elim
 rename_i T bs hob
 obtain⟨hsb,rfl,rfl⟩:=hok;rw[hox]at hvx;rw[hoy]at hvy;simp only[VR,DR]at hvx hvy;obtain⟨g,ad,m,cp,hg,hsv0,hax⟩:=hvx;obtain⟨hay,_⟩:=hvy;obtain⟨hlim,hh⟩:=hS.ob oo g _ hg (zn hob (by simp))
 have hpt:C.P.underlying t=some (.pointer T)/\C.P.cellsOf T=1:=by
  unfold Lt at hsb;split at hsb
  .rename_i e hu
   simp only[Bool.and_eq_true,decide_eq_true_eq]at hsb;obtain⟨rfl,hc⟩:=hsb;exact⟨hu,hc⟩
  .cases hsb
 have hvs:∀w':World,VR K w'.heap G (.string ⟨bs.toArray⟩) (.p (.s bs)):=fun w'=>by simp only[VR,DR];exact⟨trivial,hlim⟩
 have none':bs=[]->(execOp a.eval o).run C.P w=.ok (.value (.string ⟨bs.toArray⟩)) w:=by
  rintro rfl;refine sf h1 h2 h3 ho ?_;rw[hax,hay];exact Lib.run_unsafeString_none (P:=C.P) w t u o.type ad
 rcases Classical.em (bs=[])with h0|h0
 .exact⟨_,w,.inl (none' h0),K,G,hX,hS,hE,hd,hn,hkp,hvs w⟩
 rcases hh with⟨_,h,_⟩|⟨b,cap,cur,fr,hsv,hgb,hb,hfr,h4,h5,h6,h7,h8⟩
 .exact absurd h h0
 have hade:ad=some ⟨b,0,none⟩:=by
  rw[hsv0]at hsv;injection hsv
 subst hade
 have hsh:w.shape? b=some (T,cur.size):=by simp[World.shape?,hb]
 have hrun:=Lib.run_unsafeString_row (P:=C.P) w t u o.type T hpt.1 hpt.2 b cur.size hsh bs h0 (by omega) (by unfold eh at hlim;omega) (fun j x hj=>by
  rw[lc,cell_of_row w b (0+j) cur T fr hb,Nat.zero_add,<-Array.getElem?_toList]
  have:(cur.toList.take bs.length)[j]?=some (nJ x):=by rw[h8,getElem?_map,hj];rfl
  rw[getElem?_take]at this;split at this
  .exact this
  .cases this)
 have hb':(w.freeze ⟨b,0,none⟩ bs.length).heap[b]?=some (.cells cur T (if fr.1 == fr.2 then(0,bs.length)else(min fr.1 0,max fr.2 bs.length))):=by
  have hl:bs.length≠0:=by simpa using h0
  obtain⟨f1,f2⟩:=fr;simp[World.freeze,hl,Array.getElem?_modify,hb]
 have hfr':∀i,i≠b->(w.freeze ⟨b,0,none⟩ bs.length).heap[i]?=w.heap[i]?:=by
  intro i hi
  have hl:bs.length≠0:=by simpa using h0
  simp[World.freeze,hl,Array.getElem?_modify,Ne.symm hi]
 have hsz:(w.freeze ⟨b,0,none⟩ bs.length).heap.size=w.heap.size:=by
  have hl:bs.length≠0:=by simpa using h0
  simp[World.freeze,hl]
 have hos:(w.freeze ⟨b,0,none⟩ bs.length).os=w.os/\Tp w (w.freeze ⟨b,0,none⟩ bs.length)/\(w.freeze ⟨b,0,none⟩ bs.length).output=w.output:=by
  have hl:bs.length≠0:=by simpa using h0
  simp[World.freeze,hl,Tp]
 have hMn:Mn K K w.heap (w.freeze ⟨b,0,none⟩ bs.length).heap:=⟨fun _ h=>h,fun i hi=>hfr' i fun e=>(hS.gb oo g b hg hgb).2 (e ▸ hi)⟩
 have hset:H.set oo (.sb T bs)=H:=by
  have:=zn hob (by simp);obtain⟨hl,he⟩:=List.getElem?_eq_some_iff.1 this;rw[<-he];exact set_getElem_self hl
 have hS':=hS.modA (x:=.sb T bs) hg hgb hsz hfr' ⟨hlim,.inr ⟨b,cap,cur,_,hsv,hgb,hb',kK hfr,h4,h5,h6,h7,h8⟩⟩;rw[hset]at hS';refine⟨.string ⟨bs.toArray⟩,w.freeze ⟨b,0,none⟩ bs.length,.inl (sf h1 h2 h3 ho ?_),K,G,hX.trans (Ext.modA C.kp hg hgb hos.1 hos.2.1 hos.2.2 hsz hfr'),hS',fun m=>VR.grow hMn (fun _ _ h=>h) _ _ (hE m),hd,hn,hkp,hvs _⟩;rw[hax,hay];exact hrun
theorem Ke(hR:Rel C E H a w)(ad:Option Addr)(x:Ob)(hx:∀K h G,ObR K h G ⟨none,.slice ad 0 0,[]⟩ x):RelV C E (H++[x]) (.slice ad 0 0) (.buf H.length) a w:=by
 obtain⟨K,G,hX,hS,hE,hd,hnn,hk⟩:=hR
 have old:∀{i:Nat} {g:Gh},(G++[⟨none,.slice ad 0 0,[]⟩])[i]?=some g->(G[i]?=some g)∨(i=G.length/\g=⟨none,.slice ad 0 0,[]⟩):=by
  intro i g hg
  rcases Nat.lt_or_ge i G.length with h|h
  .rw[getElem?_append_left h]at hg;exact .inl hg
  .rw[getElem?_append_right h]at hg
   have:i-G.length=0:=by
    rcases Nat.lt_or_ge (i-G.length) 1 with h'|h'
    .omega
    .rw[getElem?_eq_none (by simpa using h')]at hg;cases hg
   rw[this]at hg;simp at hg;exact .inr ⟨by omega,hg.symm⟩
 have hG:∀(o:Nat) (g:Gh),G[o]?=some g->(G++[⟨none,.slice ad 0 0,[]⟩])[o]?=some g:=fun o g hg=>Mg.push G _ o g rfl hg
 have hM:Mn K K w.heap w.heap:=⟨fun _ h=>h,fun _ _=>rfl⟩;refine⟨K,G++[⟨none,.slice ad 0 0,[]⟩],?_,?_,fun m=>VR.grow hM hG _ _ (hE m),hd,hnn,fun o ho=>?_,?_⟩
 .refine hX.trans { Ext.refl C.kp K G w with glen:=by simp,gown:=fun i g b hg hb=>?_,gsame:=fun i g0 _ h0=>hG i g0 h0 }
  rcases old hg with h|⟨_,rfl⟩
  .exact .inl ⟨i,g,h,hb⟩
  .exact(rF hb).elim
 .refine⟨by simp[hS.len],hS.kb,fun i g b hg hb=>?_,fun i j g g' b hg hg' hb hb'=>?_,fun i g y hg hy=>?_,hS.tb⟩
  .rcases old hg with h|⟨_,rfl⟩
   .exact hS.gbo i g b h hb
   .exact(rF hb).elim
  .rcases old hg with h|⟨_,rfl⟩
   .rcases old hg' with h'|⟨_,rfl⟩
    .exact hS.ijo i j g g' b h h' hb hb'
    .exact(rF hb').elim
   .exact(rF hb).elim
  .rcases old hg with h|⟨e,rfl⟩
   .have hl:=(List.getElem?_eq_some_iff.1 h).1
    rw[hS.len]at hl;rw[getElem?_append_left hl]at hy;exact ObR.keep hM (Mg.push G _) (fun _ _=>rfl) (Ob.all_true _) (hS.ob i g y h hy)
   .subst e
    rw[hS.len,getElem?_append_right (Nat.le_refl _)]at hy;simp at hy;subst hy;exact hx _ _ _
 .obtain⟨vs',hvs',hkt⟩:=hk o ho
  exact⟨vs',by rw[getElem?_append_left (List.getElem?_eq_some_iff.1 hvs').1];exact hvs',hkt⟩
 .simp only[VR]
  refine⟨⟨none,.slice ad 0 0,[]⟩,?_,rfl,_,_,_,rfl⟩;rw[<-hS.len,getElem?_append_right (Nat.le_refl _)];simp

theorem Ik(hR:Rel C E H a w)(x:Ob)(hx:∀K h G,ObR K h G ⟨none,.slice none 0 0,[]⟩ x):RelV C E (H++[x]) (.slice none 0 0) (.buf H.length) a w:=Ke hR none x hx
theorem Kc(hR:Rel C E H a w)(ad:Option Addr)(T:TypeId)(sz:Nat):RelV C E (H++[.buf T sz []]) (.slice ad 0 0) (.buf H.length) a w :=
 Ke hR ad _ fun _ _ _=>⟨by simp,[],by simp[DRss],.inl ⟨⟨ad,rfl⟩,rfl,rfl⟩⟩
theorem jm(hR:Rel C E H a w)(T:TypeId)(sz:Nat):RelV C E (H++[.buf T sz []]) (.slice none 0 0) (.buf H.length) a w :=
 Ik hR _ fun _ _ _=>⟨by simp,[],by simp[DRss],.inl ⟨⟨none,rfl⟩,rfl,rfl⟩⟩
theorem G7(hR:Rel C E H a w)(T:TypeId):RelV C E (H++[.sb T []]) (.slice none 0 0) (.buf H.length) a w :=
 Ik hR _ fun _ _ _=>⟨by simp,.inl ⟨rfl,rfl,rfl⟩⟩

theorem yG{c:Call}{x y:Operand}{t u:TypeId}(h1:c.callee=.builtin .append)(h2:c.args.toList=[x,y])(h3:c.argTypes.toList=[t,u]){o:Oper}(ho:o.op=.call c){v:Value}{w':World}
  (hr:(Builtin.append_ #[t,u] o.type #[a.eval x,a.eval y]).run C.P w=.ok v w'):(execOp a.eval o).run C.P w=.ok (.value v) w':=by
 obtain⟨callee,args,argTypes⟩:=c;obtain⟨dst,op,ty,pos,af,gd⟩:=o;cases ho;simp only at h1 h2 h3 hr;subst h1
 have ha:args=#[x,y]:=by cases args;simp_all
 have ht:argTypes=#[t,u]:=by cases argTypes;simp_all
 subst ha;subst ht
 simp[execOp,resolve,invoke,builtin,hr]

theorem uO(hR:Rel C E H a w)(o:Oper){c:Call}{x y:Operand}{t u:TypeId}(h1:c.callee=.builtin .append)(h2:c.args.toList=[x,y])(h3:c.argTypes.toList=[t,u])(ho:o.op=.call c)
  (hx:opOk true E x) (hy:opOk true E y) (hok:(nb C.P C.kp E H t u (opnd E x) (opnd E y)).ok) :
  fW C o a w (nb C.P C.kp E H t u (opnd E x) (opnd E y)).v (nb C.P C.kp E H t u (opnd E x) (opnd E y)).E (nb C.P C.kp E H t u (opnd E x) (opnd E y)).H:=by
 obtain⟨K,G,hX,hS,hE,hd,hn,hkp⟩:=hR;have hvx:=zw hE rfl x hx;have hvy:=zw hE rfl y hy;unfold nb at hok|-;split at hok
 rotate_left
 .exact hok.elim
 rename_i e esz eb ez hk
 obtain⟨ti,ht,hk'⟩:=zH hk (by simp);obtain⟨hu,⟨i,hi1,hi2,hi3⟩,hez⟩:=iT ht hk'
 have hzi:∃zv,i.zero=some zv/\zv.cells.toList=ez:=by
  unfold vb at hez;rw[hi1]at hez;simp at hez;exact hez
 obtain⟨zv,hzv,hzc⟩:=hzi;split at hok
 rotate_left
 .exact hok.elim
 rename_i rows' hsrc
 -- an object that has grown
 have fin:∀(G1:List Gh) (H1:List Ob) (oo:Nat) (g:Gh) (X:Ob),St K G1 H1 w->G1[oo]?=some g->g.sv=a.eval x->C.kp oo=false->Ext C.kp C.K0 C.G0 C.w0 K G1 w->ig K w.heap G1 a E->fC C.kp H1 ->
   (∃sv w' g1,(Builtin.append_ #[t,u] o.type #[g.sv,a.eval y]).run C.P w=.ok sv w'/\g1.sv=sv/\(∃a n c,sv=.slice a n c)/\w'.os=w.os/\Tp w w'/\w'.output=w.output/\w.heap.size<=w'.heap.size /\
    (∀i,i<w.heap.size->¬ own g i->w'.heap[i]?=w.heap[i]?)/\(∀b,own g1 b->b<w'.heap.size/\(own g b∨w.heap.size<=b))/\ObR K w'.heap (G1.set oo g1) g1 X) ->
   fW C o a w (.buf oo) (fF (· != oo) E) ((fc (· != oo) H1).set oo X):=by
  intro G1 H1 oo g X hS1 hg hsv hkf hX1 hE1 hkp1 hh;obtain⟨sv,w',g1,hrun,hg1,hslice,e1,e2,e3,e4,e5,e6,e7⟩:=hh;refine⟨sv,w',.inl (yG h1 h2 h3 ho (by rw[<-hsv];exact hrun)),?_⟩;have hM:Mn K K w.heap w'.heap:=⟨fun _ h=>h,fun b hb=>e5 b (hS1.kb b hb) fun e=>(hS1.gbo oo g b hg e).2 hb⟩
  have hMg:Mg (· != oo) G1 (G1.set oo g1):=fun j g' hj hg'=>by rw[getElem?_set_ne (by simpa using Ne.symm (by simpa using hj))];exact hg'
  have hol:oo<G1.length:=(List.getElem?_eq_some_iff.1 hg).1;refine⟨K,G1.set oo g1,hX1.trans (Ext.modB hg hkf e1 e2 e3 e4 e5 (fun b hb=>(e6 b hb).2)),?_,fun m=>?_,hd,hn,fun j hj=>?_,?_⟩
  .rw[nH]
   exact hS1.modB hg e4 e5 e6 e7
  .rw[qh]
   exact VR.prune hM hMg _ _ (hE1 m)
  .obtain⟨vs,hvs,hkt⟩:=hkp1 j hj
   have hne:j≠oo:=fun h=>by rw[h,hkf]at hj;cases hj
   refine⟨vs.prune (· != oo),?_,cw hkt⟩;rw[getElem?_set_ne (Ne.symm hne),nH,getElem?_map,hvs];rfl
  .simp only[VR]
   exact⟨g1,getElem?_set_self hol,hg1.symm,by rw[hg1];exact hslice⟩
 -- the step on an object at hand
 have step:∀(G1:List Gh) (H1:List Ob) (oo:Nat) (g:Gh) (rows:List (List Dt)),St K G1 H1 w->G1[oo]?=some g->ObR K w.heap G1 g (.buf e esz rows)->g.sv=a.eval x->BB H1 (opnd E y)=some rows'->VR K w.heap G1 (a.eval y) (opnd E y) ->
   ez.length=esz->eb<=512->(rows++rows').length<=eh->rM C.P u esz e (opnd E y) rows'->C.kp oo=false->Ext C.kp C.K0 C.G0 C.w0 K G1 w->ig K w.heap G1 a E->fC C.kp H1 ->
   fW C o a w (.buf oo) (fF (· != oo) E) ((fc (· != oo) H1).set oo (.buf e esz (rows++rows'))):=by
  intro G1 H1 oo g rows hS1 hg hob hsv hsrc1 hvy1 hel heb hlim hso hkf hX1 hE1 hkp1;obtain⟨news,d,hdu,hdd,hsr,hdr⟩:=xr (C:=C) hS1 hvy1 hsrc1 hso hi2
  have hby:(rows++rows').length*i.bytes<=140737488355328:=by
   rw[hi3];have:=Nat.mul_le_mul hlim heb;unfold eh at this;omega
  exact fin G1 H1 oo g _ hS1 hg hsv hkf hX1 hE1 hkp1 (Bh (P:=C.P) hS1 hg hob (t:=t) (u:=u) (ty:=o.type) hu hdu hdd hi1 hi2 hzv (by rw[<-hel,<-hzc];simp) hsr hdr.ones hdr rfl hlim hby)
 have grow:∀(base:Option Addr) (n cap:Nat) (rows:List (List Dt)) (olds:List Value),a.eval x=.slice base n cap->nk C.P w i.size (.slice base n cap) n olds->rows.length=n->DRss K w.heap esz olds rows->n=cap ->
   ∀(news:List Value) (d:TypeDesc),C.P.underlying u=some d->((∃k,d=.slice k)∨d=.string)->nk C.P w i.size (a.eval y) rows'.length news->DRss K w.heap esz news rows' ->
   ez.length=esz->eb<=512->(rows++rows').length<=eh->0<rows'.length->∀dat:Bool,fW C o a w (match dat with|true=>.p (.l (rows++rows'))|false=>.buf H.length) E (match dat with|true=>H|false=>H++[.buf e esz (rows++rows')]):=by
  intro base n cap rows olds hax hos hrn hod hnc news d hdu hdd hsr hdr hel heb hlim hpos dat;subst hrn;subst hnc
  have hlim':rows.length+rows'.length<=eh:=by simpa using hlim
  have hby:(rows.length+rows'.length)*i.bytes<=140737488355328:=by
   rw[hi3];have:=Nat.mul_le_mul hlim' heb;unfold eh at this;omega
  have hl63:rows.length+rows'.length<=9223372036854775807:=by unfold eh at hlim';omega
  have hrun:=IG (P:=C.P) w (ty:=o.type) hu hdu hdd hi1 hzv hos hsr (by omega) hl63 (growslice_fits (by omega) hby);have hge:=grownCap_ge w (rows.length+rows'.length) rows.length e;have hcm:=grownCap_le_maxLen w (rows.length+rows'.length) rows.length e (by simp only[maxLen];omega);have hol:=hod.length;have hnl:=hdr.length
  have hzs:zv.cells.size=esz:=by rw[<-hel,<-hzc];simp
  refine⟨_,_,.inl (yG h1 h2 h3 ho (by rw[hax];exact hrun)),?_⟩;cases dat
  .refine CX (w1:=w.drew) hX hS hE hd hn hkp (.inr rfl) (xs:=olds++news) (hod.append hdr) (by simp) hlim' (Free.zero _) hge hcm ?_ ?_
   .simp only[Array.size_append,size_toArray,size_zeroCells,hzs,hol,hnl,<-Nat.add_mul]
    congr 1
    omega
   .simp only[Array.toList_append,append_assoc]
    rw[<-append_assoc]
    have:(olds++news).length=(rows.length+rows'.length)*esz:=by rw[length_append,hol,hnl,Nat.add_mul]
    rw[<-this];exact take_left
  .refine s7 (w1:=w.drew) hX hS hE hd hn hkp (.inr rfl) (xs:=olds++news) (hod.append hdr) (by simp) hlim' (Free.zero _) hge hcm ?_ ?_
   .simp only[Array.size_append,size_toArray,size_zeroCells,hzs,hol,hnl,<-Nat.add_mul]
    congr 1
    omega
   .simp only[Array.toList_append,append_assoc]
    rw[<-append_assoc]
    have:(olds++news).length=(rows.length+rows'.length)*esz:=by rw[length_append,hol,hnl,Nat.add_mul]
    rw[<-this];exact take_left
 split at hok
 .rename_i oo hox
  split at hok
  rotate_left
  .rename_i T bs hob
   obtain⟨hkf,rfl,rfl,hel,heb,hlim,hall,hso⟩:=hok;rw[hox]at hvx;simp only[VR]at hvx;obtain⟨g,hg,hax,_⟩:=hvx;obtain⟨news,d,hdu,hdd,hsr,hdr⟩:=xr (C:=C) hS hvy hsrc hso hi2;obtain⟨hnb,hbl⟩:=J3 hdr hall;rw[hnb,<-hbl]at hsr
   have hby:(bs++gf rows').length*i.bytes<=140737488355328:=by
    rw[hi3];have:=Nat.mul_le_mul hlim heb;unfold eh at this;omega
   exact fin G H oo g _ hS hg hax.symm hkf hX hE hkp (rm (P:=C.P) hS hg (hS.ob oo g _ hg (zn hob (by simp))) (t:=t) (u:=u) (ty:=o.type) hu hdu hdd hi1 hi2 hzv (by rw[<-hel,<-hzc];simp) hsr hlim hby)
  .exact hok.elim
  rename_i T sz rows hob
  obtain⟨hkf,rfl,rfl,hel,heb,hlim,hso⟩:=hok;rw[hox]at hvx;simp only[VR]at hvx;obtain⟨g,hg,hax,_⟩:=hvx;exact step G H oo g rows hS hg (hS.ob oo g _ hg (zn hob (by simp))) hax.symm hsrc hvy hel heb hlim hso hkf hX hE hkp
 .rename_i hox
  obtain⟨hkf,hel,heb,hlim,hso⟩:=hok;rw[hox]at hvx;simp only[VR]at hvx;obtain⟨news,d,hdu,hdd,hsr,hdr⟩:=xr (C:=C) hS hvy hsrc hso hi2
  rcases Nat.eq_zero_or_pos rows'.length with h0|hpos
  .have hr0:rows'=[]:=length_eq_zero_iff.1 h0
   subst hr0;exact⟨_,w,.inl (yG h1 h2 h3 ho (by rw[hvx];exact Ds (P:=C.P) w hu hdu hdd hi1 hsr none)),jm ⟨K,G,hX,hS,hE,hd,hn,hkp⟩ e esz⟩
  .have hs0:nk C.P w i.size (.slice none 0 0) 0 []:=⟨fun _=>rfl,fun _ _=>by simp[Builtin.firstCells],by simp⟩
   exact grow none 0 0 [] [] hvx hs0 rfl (by simp[DRss]) rfl news d hdu hdd hsr hdr hel heb (by simpa using hlim) hpos false
 .rename_i rows hox
  cases hdb:A3 C.P e (opnd E y)with
  |true =>
   simp only[hdb]at hok;obtain⟨hel,heb,hlim,hszk,hpos,hso⟩:=hok;rw[hox]at hvx;obtain⟨news,d,hdu,hdd,hsr,hdr⟩:=xr (C:=C) hS hvy hsrc hso hi2;obtain⟨olds,d2,_,_,hos,hod⟩:=xr (C:=C) (u:=t) (e:=e) hS hvx (rows:=rows) rfl ⟨hszk,by rw[hk];trivial⟩ hi2;have hax:=hvx;simp only[VR]at hax;obtain⟨_,base,hax⟩:=hax;rw[hax]at hos
   rcases Nat.eq_zero_or_pos rows'.length with h0|hpos'
   .have hr0:rows'=[]:=length_eq_zero_iff.1 h0
    subst hr0
    cases rows with
    |cons _ _=>simp[iE]at hpos
    |nil=>exact⟨_,w,.inl (yG h1 h2 h3 ho (by rw[hax];exact Ds (P:=C.P) w hu hdu hdd hi1 hsr base)),⟨K,G,hX,hS,hE,hd,hn,hkp,by simp only[VR,DR];exact .inl ⟨⟨base,rfl⟩,rfl⟩⟩⟩
   .exact grow base rows.length rows.length rows olds hax hos rfl hod rfl news d hdu hdd hsr hdr hel heb hlim hpos' true
  |false =>
   simp only[hdb]at hok;obtain⟨hkf,hel,heb,hlim,hszk,hpos,hso⟩:=hok;rw[hox]at hvx;obtain⟨news,d,hdu,hdd,hsr,hdr⟩:=xr (C:=C) hS hvy hsrc hso hi2;obtain⟨olds,d2,_,_,hos,hod⟩:=xr (C:=C) (u:=t) (e:=e) hS hvx (rows:=rows) rfl ⟨hszk,by rw[hk];trivial⟩ hi2;have hax:=hvx;simp only[VR]at hax;obtain⟨_,base,hax⟩:=hax;rw[hax]at hos
   rcases Nat.eq_zero_or_pos rows'.length with h0|hpos'
   .have hr0:rows'=[]:=length_eq_zero_iff.1 h0
    subst hr0
    cases rows with
    |cons _ _=>simp[iE]at hpos
    |nil=>exact⟨_,w,.inl (yG h1 h2 h3 ho (by rw[hax];exact Ds (P:=C.P) w hu hdu hdd hi1 hsr base)),Kc ⟨K,G,hX,hS,hE,hd,hn,hkp⟩ base e esz⟩
   .exact grow base rows.length rows.length rows olds hax hos rfl hod rfl news d hdu hdd hsr hdr hel heb hlim hpos' false
 .exact hok.elim

def qW(C:Cx)(E:dY)(H:List Ob)(o:Oper):Prop :=
 (jV C.P C.kp E H o.op).ok->∀a w,Rel C E H a w->fW C o a w (jV C.P C.kp E H o.op).v (jV C.P C.kp E H o.op).E (jV C.P C.kp E H o.op).H
theorem w4(C:Cx)(E:dY)(H:List Ob)(o:Oper):qW C E H o:=by
 intro hok a w hR
 cases ho:o.op <;> rw[ho]at hok <;> simp only[jV]at hok|- <;> try (exact hok.elim)
 case alloc t=>exact uR hR o ho hok
 case box t x=>exact Ba hR o ho hok
 case buildSlice t n ps=>exact A6 hR o ho hok
 case store t x y=>exact sE hR o ho hok.1 hok.2.1 hok.2.2
 case convert s d x=>exact ux hR o ho hok.1 hok.2
 case makeSlice t l c=>exact wI hR o ho hok.1 hok.2.1 hok.2.2
 case call c =>
  split at hok
  .rename_i x y t u h1 h2 h3
   exact uO hR o h1 h2 h3 ho hok.1 hok.2.1 hok.2.2
  .rename_i x tl h1 h2
   exact ED hR o h1 h2 ho hok.1 hok.2
  .rename_i x y t u h1 h2 h3
   exact D8 hR o h1 h2 h3 ho hok.1 hok.2.1 hok.2.2
  .rename_i x y t u h1 h2 h3
   exact AY hR o ho h1 h2 h3 hok.1 hok.2.1 hok.2.2
  .exact hok.elim
 case makeMap t r =>
  cases r with
  |none=>exact Ax hR o ho hok
  |some _=>exact hok.elim
 case mapUpdate t m k x=>exact s5 hR o (.inl ho) hok.1 hok.2.1 hok.2.2.1 hok.2.2.2
 case insert t m k x=>exact s5 hR o (.inr ho) hok.1 hok.2.1 hok.2.2.1 hok.2.2.2
end

def iq(P:Program)(kp:Nat->Bool)(E:dY)(H:List Ob)(t:TypeId)(x y:Va):Option Ev:=match x with
 |.el o sz i off=>match ed H o with
  |.nst f T sz' k p rows st=>some (match ej P t with
   |some ti=>match y with
    |.nv q j=>⟨.top,E,H.set o (.nst f T sz' k p rows none),q=p/\j=i/\st=some i/\off=k/\sz=sz'/\ti.size=1/\i<rows.length⟩
    |.buf m=>match ed H m,ed H p with
     |.buf Te sze r,.inn Te' sze' ins=>⟨.top,fF (fun q=>!(q == p)&&!(q == m)) E,(((fc (fun q=>!(q == p)&&!(q == m)) H).set o (.nst f T sz' k p rows none)).set p (.inn Te' sze' (ins.set i r))).set m .gone,
       kp p=false/\kp m=false/\Te=Te'/\sze=sze'/\off=k/\sz=sz'/\st=none/\ti.size=1/\i<rows.length/\m≠p/\m≠o/\o≠p⟩
     |_,_=>eN
    |y=>match eK (gL y)with
     |some ds=>⟨.top,E,H.set o (.nst f T sz' k p (rows.set i (Bq sz (rows.getD i []) off ds)) st),y.isCell=true/\rO (gL y)/\ds.length=ti.size/\sz=sz'/\i<rows.length/\off+ds.length<=sz/\(rows.getD i []).length=sz/\(off+ds.length<=k∨k<off)⟩
     |none=>eN
   |none=>eN)
  |_=>none
 |.ne p sz i j off=>some (match ej P t with
  |some ti=>match ed H p with
   |.inn T sz' ins=>match eK (gL y)with
    |some ds=>⟨.top,E,H.set p (.inn T sz' (ins.set i ((ins.getD i []).set j (Bq sz ((ins.getD i []).getD j []) off ds)))),y.isCell=true/\rO (gL y)/\ds.length=ti.size/\sz=sz'/\j<(ins.getD i []).length/\off+ds.length<=sz⟩
    |none=>eN
   |_=>eN
  |none=>eN)
 |_=>none

def uP(P:Program)(kp:Nat->Bool)(E:dY)(H:List Ob)(t u:TypeId)(dst x:Va):Option Ev:=match dst with
 |.nv q i=>some (match z7 P t,BB H x,ed H q with
  |.slice e esz eb ez,some rows',.inn Te sze ins=>match ed H (q-1)with
   |.nst f T sz k p rows st=>⟨.nv q i,fF (· != q) E,((fc (· != q) H).set (q-1) (.nst f T sz k p rows (some i))).set q (.inn Te sze (ins.set i (ins.getD i []++rows'))),
     kp q=false/\q≠0/\p=q/\st=none/\e=Te/\esz=sze/\ez.length=esz/\eb<=512/\(ins.getD i []++rows').length<=eh/\i<ins.length/\rM P u esz e x rows'⟩
   |_=>eN
  |_,_,_=>eN)
 |.buf o=>match ed H o with
  |.nst f T sz k p rows st=>some (match z7 P t,x with
   |.slice e esz eb ez,.buf o2=>match ed H p,ed H o2 with
    |.inn Te sze ins,.nst _ T2 sz2 k2 p2 rows2 st2=>match ed H p2 with
     |.inn Te2 sze2 ins2=>⟨.buf o,fF (fun q=>!(q == o)&&(!(q == p)&&(!(q == o2)&&!(q == p2)))) E,
       ((((fc (fun q=>!(q == o)&&(!(q == p)&&(!(q == o2)&&!(q == p2)))) H).set o (.nst f T sz k p (rows++rows2) none)).set p (.inn Te sze (ins++ins2))).set o2 .gone).set p2 .gone,
       kp o=false/\kp p=false/\kp o2=false/\kp p2=false/\st=none/\st2=none/\e=T/\esz=sz/\T2=T/\sz2=sz/\k2=k/\Te2=Te/\sze2=sze/\ez.length=esz/\eb<=512/\(rows++rows2).length<=eh /\
        (match z7 P u with
         |.slice _ _ _ _=>True
         |_=>False)/\o≠p/\o≠o2/\o≠p2/\p≠o2/\p≠p2/\o2≠p2⟩
     |_=>eN
    |_,_=>eN
   |_,_=>eN)
  |_=>none
 |_=>none
def JM(ez:List Value)(k:Nat):Option (List Dt):=eK ((ez.map cv).set k (.p (.b false)))
def tn(P:Program)(E:dY)(H:List Ob)(t:TypeId)(l c:Va):Option Ev:=match z7 P t with
 |.slice e esz eb ez=>match Tabs.nest e with
  |some (k,Te,sze)=>some (match JM ez k,l,c with
   |some z,.p (.i _ n),.p (.i _ m)=>⟨.buf H.length,E,H++[.nst false e esz k (H.length+1) (List.replicate n.toNat z) none,.inn Te sze (List.replicate n.toNat [])],
     nC ez/\ez.length=esz/\k<esz/\ez[k]?=some (.slice none 0 0)/\0<=n/\n<=m/\m<=eh/\eb<=512⟩
   |_,_,_=>eN)
  |none=>none
 |_=>none
def qE:Nat->List (Nat×Operand)->Option Operand
 |1,[(0,x)]=>some x
 |_,_=>none
theorem jq{n:Nat}{ps:List (Nat×Operand)}{x:Operand}(h:qE n ps=some x):n=1/\ps=[(0,x)]:=by
 unfold qE at h;split at h
 .cases h;exact⟨rfl,rfl⟩
 .cases h
def uB(P:Program)(kp:Nat->Bool)(E:dY)(H:List Ob)(t:TypeId)(n:Nat)(ps:List (Nat×Operand)):Option Ev:=match z7 P t with
 |.slice e esz _ ez=>match Tabs.nest e with
  |some (k,Te,sze)=>some (match qE n ps with
   |some x=>match opnd E x with
    |.agg cs=>match eK (cs.set k (.p (.b false))),eK (ez.map cv)with
     |some z,some _=>match rl cs k with
      |.nils=>⟨.buf H.length,E,H++[.nst false e esz k (H.length+1) [z] none,.inn Te sze [[]]],opOk true E x/\rO cs/\nC ez/\ez.length=esz/\cs.length=esz/\k<esz/\esz<=16777216⟩
      |.buf m=>match ed H m with
       |.buf Te' sze' r=>⟨.buf H.length,fF (· != m) E,(fc (· != m) H).set m .gone++[.nst false e esz k (H.length+1) [z] none,.inn Te sze [r]],
         kp m=false/\Te'=Te/\sze'=sze/\opOk true E x/\rO cs/\nC ez/\ez.length=esz/\cs.length=esz/\k<esz/\esz<=16777216⟩
       |_=>eN
      |_=>eN
     |_,_=>eN
    |_=>eN
   |none=>eN)
  |none=>none
 |_=>none
def vA(c d:Prop):Option Ev->Option Ev
 |some r=>some ⟨r.v,r.E,r.H,c/\d/\r.ok⟩
 |none=>none
def rn(c:Call):Option (Operand×Operand×TypeId×TypeId):=match c.callee,c.args.toList,c.argTypes.toList with
 |.builtin .append,[x,y],[t,u]=>some (x,y,t,u)
 |_,_,_=>none
theorem jM{c:Call}{x y:Operand}{t u:TypeId}(h:rn c=some (x,y,t,u)):c.callee=.builtin .append/\c.args.toList=[x,y]/\c.argTypes.toList=[t,u]:=by
 unfold rn at h;split at h
 .rename_i h1 h2 h3;cases h;exact⟨h1,h2,h3⟩
 .cases h
def gH(P:Program)(kp:Nat->Bool)(E:dY)(H:List Ob):Op->Option Ev
 |.store t x y=>vA (opOk true E x) (opOk true E y) (iq P kp E H t (opnd E x) (opnd E y))
 |.buildSlice t n ps=>uB P kp E H t n ps.toList
 |.makeSlice t l c=>vA (opOk true E l) (opOk true E c) (tn P E H t (opnd E l) (opnd E c))
 |.call c=>match rn c with
  |some (x,y,t,u)=>vA (opOk true E x) (opOk true E y) (uP P kp E H t u (opnd E x) (opnd E y))
  |none=>none
 |_=>none
def fH(P:Program)(kp:Nat->Bool)(E:dY)(H:List Ob)(op:Op):Ev:=match gH P kp E H op with
 |some r=>r
 |none=>jV P kp E H op

section
variable {K:Nat->Prop} {G G':List Gh} {H H':List Ob} {w w':World} {f:Nat->Bool} {on:Nat} {tgt:Nat->Nat}
def ru(w w':World)(G G':List Gh)(f:Nat->Bool)(tgt:Nat->Nat)(on:Nat):Prop:=∀(o:Nat) (g:Gh) (b:Nat),G'[o]?=some g->own g b ->
 (f o=true/\G[o]?=some g)∨(∃o2 g2,f o2=false/\G[o2]?=some g2/\own g2 b/\tgt o2=o)∨(w.heap.size<=b/\b<w'.heap.size/\o=on)
theorem St.modM(hS:St K G H w)(hl:G'.length=H'.length)(hMg:Mg f G G')(hsz:w.heap.size<=w'.heap.size)
  (hfr:∀b,b<w.heap.size->(∀(o:Nat) (g:Gh),f o=false->G[o]?=some g->¬ own g b)->w'.heap[b]?=w.heap[b]?) (hown:ru w w' G G' f tgt on)
  (hob:∀(o:Nat) (g:Gh) (x:Ob),G'[o]?=some g->H'[o]?=some x->ObR K w'.heap G' g x∨(f o=true/\∃y,H[o]?=some y/\x=y.prune f)):St K G' H' w':=by
 have hM:Mn K K w.heap w'.heap:=⟨fun _ h=>h,fun b hb=>hfr b (hS.kb b hb) fun o g _ hg e=>(hS.gbo o g b hg e).2 hb⟩;refine⟨hl,fun b hb=>Nat.lt_of_lt_of_le (hS.kb b hb) hsz,fun o g b hg hb=>?_,fun o o' g g' b hg hg' hb hb'=>?_,fun o g x hg hx=>?_,hS.tb.mono hM⟩
 .rcases hown o g b hg hb with⟨_,h⟩|⟨o2,g2,_,h,h',_⟩|⟨h1,h2,_⟩
  .have:=hS.gbo o g b h hb;exact⟨by omega,this.2⟩
  .have:=hS.gbo o2 g2 b h h';exact⟨by omega,this.2⟩
  .exact⟨h2,fun hk=>by have:=hS.kb b hk;omega⟩
 .rcases hown o g b hg hb with⟨e1,h⟩|⟨o2,g2,e1,h,h',e2⟩|⟨h1,h2,e⟩ <;> rcases hown o' g' b hg' hb' with⟨f1,k⟩|⟨p2,q2,f1,k,k',f2⟩|⟨k1,k2,e'⟩
  .exact hS.ijo o o' g g' b h k hb hb'
  .obtain rfl:=hS.ijo o p2 g q2 b h k hb k'
   rw[e1]at f1;cases f1
  .have:=(hS.gbo o g b h hb).1;omega
  .obtain rfl:=hS.ijo o2 o' g2 g' b h k h' hb'
   rw[e1]at f1;cases f1
  .obtain rfl:=hS.ijo o2 p2 g2 q2 b h k h' k'
   rw[<-e2,<-f2]
  .have:=(hS.gbo o2 g2 b h h').1;omega
  .have:=(hS.gbo o' g' b k hb').1;omega
  .have:=(hS.gbo p2 q2 b k k').1;omega
  .rw[e,e']
 .rcases hob o g x hg hx with h|⟨hf,y,hy,rfl⟩
  .exact h
  .have hol:o<G.length:=by rw[hS.len];exact(List.getElem?_eq_some_iff.1 hy).1
   have h0:=hMg o _ hf (getElem?_eq_getElem hol);rw[hg]at h0
   have hg0:G[o]?=some g:=by rw[getElem?_eq_getElem hol];exact h0.symm
   exact ObR.prune hM hMg (fun b hb=>hfr b (hS.gbo o g b hg0 hb).1 fun o2 g2 h2 h3 h4=>by
    obtain rfl:=hS.ijo o o2 g g2 b hg0 h3 hb h4
    rw[hf]at h2;cases h2) (hS.ob o g y hg0 hy)
theorem Ext.modM{kp:Nat->Bool}(hlen:G.length<=G'.length)(hMg:Mg f G G')(hos:w'.os=w.os)(ht:Tp w w')(ho:w'.output=w.output)(hsz:w.heap.size<=w'.heap.size)
  (hfr:∀b,b<w.heap.size->(∀(o:Nat) (g:Gh),f o=false->G[o]?=some g->¬ own g b)->w'.heap[b]?=w.heap[b]?) (hown:ru w w' G G' f tgt on) (hk:∀o,kp o=true->f o=true):Ext kp K G w K G' w' where
 os:=hos
 tape:=ht
 output:=ho
 size:=hsz
 k:=fun _ h=>h
 knew:=fun _ h=>.inl h
 glen:=hlen
 gown:=fun o g b hg hb=>by
  rcases hown o g b hg hb with⟨_,h⟩|⟨o2,g2,_,h,h',_⟩|⟨h,_,_⟩
  .exact .inl ⟨o,g,h,hb⟩
  .exact .inl ⟨o2,g2,h,h'⟩
  .exact .inr h
 gsame:=fun o g0 h h0=>hMg o g0 (hk o h) h0
 frame:=fun b hb hn=>hfr b hb fun o g _ hg=>hn o g hg
end
theorem im{α:Type}{l:List α}{i o:Nat}{x y:α}(h:(l.set i x)[o]?=some y):(o=i/\y=x/\i<l.length)∨(o≠i/\l[o]?=some y):=by
 by_cases e:o=i
 .subst e
  have hl:=(List.getElem?_eq_some_iff.1 h).1;rw[length_set]at hl;rw[getElem?_set_self hl]at h;exact .inl ⟨rfl,(Option.some.inj h).symm,hl⟩
 .rw[getElem?_set_ne (Ne.symm e)]at h
  exact .inr ⟨e,h⟩
theorem Gf{f:Nat->Bool}{H:List Ob}{o:Nat}{x:Ob}(h:(fc f H)[o]?=some x):∃y,H[o]?=some y/\x=y.prune f:=by
 rw[nH,getElem?_map]at h
 cases hy:H[o]? with
 |none=>rw[hy]at h;cases h
 |some y=>rw[hy]at h;exact⟨y,rfl,(Option.some.inj h).symm⟩
theorem xU(f:Nat->Bool)(H:List Ob):(fc f H).length=H.length:=by rw[nH,length_map]
theorem Gi{f:Nat->Bool}{H:List Ob}{o:Nat}{x:Ob}(h:H[o]?=some x)(hk:x.kept=true):∃y,(fc f H)[o]?=some y/\y.kept=true:=⟨x.prune f,by rw[nH,getElem?_map,h];rfl,cw hk⟩
theorem dR{K:Nat->Prop}{G:List Gh}{H:List Ob}{w:World}(hS:St K G H w){o:Nat}{x:Ob}(hx:∀g,G[o]?=some g->ObR K w.heap G g x):St K G (H.set o x) w :=
 ⟨by simp[hS.len],hS.kb,hS.gbo,hS.ijo,fun i g y hg hy=>by
  rcases im hy with⟨rfl,rfl,_⟩|⟨_,h⟩
  .exact hx g hg
  .exact hS.ob i g y hg h,hS.tb⟩
theorem F8(a:Option Addr)(n:Nat):hJ (.slice a n 0)=none:=by
 cases a with
 |none=>rfl
 |some a=>cases a;rfl
theorem HH{K:Nat->Prop}{h:Array Obj}{bo:Option Nat}{sv:Value}{T:TypeId}{sz:Nat}{rows:List (List Dt)}(H:bufR K h bo sv T sz rows):bufR K h (hJ sv) sv T sz rows:=by
 obtain⟨hlim,xs,hxs,hh⟩:=H;refine⟨hlim,xs,hxs,?_⟩
 rcases hh with⟨⟨a,h1⟩,h2,_⟩|⟨b,cap,cur,fr,h1,h2,h3,h4,h5,h6,h7,h8⟩
 .exact .inl ⟨⟨a,h1⟩,h2,by rw[h1];exact F8 a 0⟩
 .cases cap with
  |zero =>
   have h0:rows.length=0:=by omega
   exact .inl ⟨⟨some ⟨b,0,none⟩,by rw[h1,h0]⟩,length_eq_zero_iff.1 h0,by rw[h1];exact F8 _ _⟩
  |succ cap=>exact .inr ⟨b,cap+1,cur,fr,h1,by rw[h1];rfl,h3,h4,h5,h6,h7,h8⟩
theorem xB{K:Nat->Prop}{h:Array Obj}{bo:Option Nat}{sv:Value}{T:TypeId}{sz b:Nat}{rows:List (List Dt)}(H:bufR K h bo sv T sz rows)(hb:hJ sv=some b):bo=some b:=by
 obtain⟨_,_,_,hh⟩:=H
 rcases hh with⟨⟨a,h1⟩,_,_⟩|⟨b',cap,cur,fr,h1,h2,_⟩
 .rw[h1,F8]at hb;cases hb
 .rw[h1]at hb
  cases cap with
  |zero=>rw[F8]at hb;cases hb
  |succ cap=>simp only[hJ]at hb;rw[h2];exact hb
theorem A5{K:Nat->Prop}{h:Array Obj}{bo:Option Nat}{sv:Value}{T:TypeId}{sz:Nat}{rows:List (List Dt)}(H:bufR K h bo sv T sz rows):∃a n c,sv=.slice a n c:=by
 obtain⟨_,_,_,hh⟩:=H
 rcases hh with⟨⟨a,h1⟩,_,_⟩|⟨b',cap,cur,fr,h1,_⟩ <;> exact⟨_,_,_,h1⟩

section
variable {K:Nat->Prop} {G:List Gh} {H:List Ob} {w:World} {P:Program}
theorem F1{t:TypeId}{ti:Ti}(ht:ej P t=some ti){bo:Option Nat}{sv:Value}{T:TypeId}{sz i off b:Nat}{rows:List (List Dt)}(hbuf:bufR K w.heap bo sv T sz rows)(hgb:bo=some b)(hKb:¬ K b)(hi:i<rows.length){y:Value}{ds:List Dt}
  (hdd:DRs K w.heap y.cells.toList ds) (hone:∀c∈y.cells.toList,c.oneCell'=true) (hsz:ds.length=ti.size) (hfit:off+ds.length<=sz) :
  ∃w',(Instr.storeAt t (.pointer (some ⟨b,i*sz+off,none⟩)) y).run P w=.ok () w'/\w'.os=w.os/\Tp w w'/\w'.output=w.output/\w'.heap.size=w.heap.size/\(∀i,i≠b->w'.heap[i]?=w.heap[i]?) /\
   bufR K w'.heap bo sv T sz (rows.set i (g5 (rows.getD i []) off ds)):=by
 obtain⟨hlim,xs,hxs,hh⟩:=hbuf
 rcases hh with⟨_,_,h3⟩|⟨b',cap',cur,fr,h1,h2,hb,hfr,h4,h5,h6,h7⟩
 .rw[hgb]at h3;cases h3
 obtain rfl:b'=b:=by rw[hgb]at h2;exact(Option.some.inj h2).symm
 have hcl:=hdd.length;have hxl:=hxs.length
 have hpos:i*sz+off+y.cells.toList.length<=rows.length*sz:=by
  have:(i+1)*sz<=rows.length*sz:=Nat.mul_le_mul_right _ hi;rw[Nat.add_mul]at this;omega
 have hcur:rows.length*sz<=cur.size:=Nat.le_trans (Nat.mul_le_mul_right _ h4) h6;have hst:=GI (P:=P) b' (i*sz+off) T fr y.cells.toList 0 cur w hb hfr (by omega) hone
 have hsize:¬ y.cells.size≠ti.size:=by simp at hcl;omega
 have hrun:(Instr.storeAt t (.pointer (some ⟨b',i*sz+off,none⟩)) y).run P w=.ok () (w.setRow b' (eP cur.toList (i*sz+off+0) y.cells.toList).toArray):=by
  simp only[Instr.storeAt,Instr.sureAddr,Sem.run_bind,Sem.run_pure,Result.andThen_ok,storeVar,run_sizeOf w ht,if_neg hsize];exact hst
 have hMn:Mn K K w.heap (w.setRow b' (eP cur.toList (i*sz+off+0) y.cells.toList).toArray).heap:=⟨fun _ h=>h,fun i hi=>xM w b' _ i fun e=>hKb (e ▸ hi)⟩;refine⟨_,hrun,rfl,⟨rfl,fun _=>Nat.le_refl _⟩,rfl,by simp,xM w b' _,?_⟩
 have hlen:(eP cur.toList (i*sz+off) y.cells.toList).length=cur.size:=by rw[B4 _ _ _ (by simp at hpos|-;omega)];simp
 refine⟨by simpa using hlim,_,DRss.mono hMn _ _ _ (hxs.set i off hdd hi (by omega)),.inr ⟨b',cap',_,fr,by rw[length_set];exact h1,hgb,setRow_heap w b' _ _ T fr hb,?_,by rw[length_set];exact h4,h5,?_,?_⟩⟩
 .simp only[Nat.add_zero,size_toArray,hlen];exact hfr
 .simp only[Nat.add_zero,size_toArray,hlen];exact h6
 .simp only[Nat.add_zero,length_set]
  rw[<-h7,rG _ _ _ (by simp at hpos|-;omega),rG _ _ _ (by simp at hpos hcur|-;omega)];simp only[Array.length_toList];rw[take_append,take_of_length_le (by simp;omega)];simp only[length_append,length_take,Array.length_toList];rw[take_take,drop_take]
  congr 1
  .rw[Nat.min_eq_left (by omega)]
  .congr 1
   simp at hpos;omega

theorem jf:∀{r:List Dt} {k off:Nat} {ds:List Dt} {x:Dt},(off+ds.length<=k∨k<off)->off+ds.length<=r.length->g5 (r.set k x) off ds=(g5 r off ds).set k x
 |r,k,0,ds,x,h,hl=>by
  have hk:ds.length<=k:=by omega
  simp only[g5];rw[set_append_right _ _ hk,drop_set,if_neg (by omega)]
 |d::r,0,off+1,ds,x,h,hl=>by simp[g5]
 |d::r,k+1,off+1,ds,x,h,hl=>by
  simp only[set_cons_succ,g5];rw[jf (by omega) (by simp at hl;omega)]
 |[],k,off+1,ds,x,h,hl=>by simp at hl
theorem pf{k:Nat}:∀{rows:List (List Dt)} {vs:List Value} {i:Nat} {r':List Dt},vs.length=rows.length->i<rows.length->fy k (rows.set i r') vs=(fy k rows vs).set i (r'.set k (.r (vs.getD i undef)))
 |[],_,_,_,_,h=>by simp at h
 |r::rows,v::vs,0,r',_,_=>by simp[fy]
 |r::rows,v::vs,i+1,r',h,hi=>by simp only[set_cons_succ,fy];rw[pf (by simpa using h) (by simpa using hi)];simp
 |_::_,[],_,_,h,_=>by simp at h
theorem Hv{k:Nat}:∀{rows:List (List Dt)} {vs:List Value} {i:Nat} {v:Value},vs.length=rows.length->i<rows.length->fy k rows (vs.set i v)=(fy k rows vs).set i ((rows.getD i []).set k (.r v))
 |[],_,_,_,_,h=>by simp at h
 |r::rows,u::vs,0,v,_,_=>by simp[fy]
 |r::rows,u::vs,i+1,v,h,hi=>by simp only[set_cons_succ,fy];rw[Hv (by simpa using h) (by simpa using hi)];simp
 |_::_,[],_,_,h,_=>by simp at h
theorem HT:∀{r:List Dt} {k:Nat} {d x:Dt},k<r.length->g5 (r.set k x) k [d]=r.set k d
 |[],_,_,_,h=>by simp at h
 |y::r,0,d,x,_=>by simp[g5]
 |y::r,k+1,d,x,h=>by simp only[set_cons_succ,g5];rw[HT (by simpa using h)]
theorem Ka{k:Nat}:∀{rows rows':List (List Dt)} {vs vs':List Value},vs.length=rows.length->fy k (rows++rows') (vs++vs')=fy k rows vs++fy k rows' vs'
 |[],_,[],_,_=>rfl
 |r::rows,rows',v::vs,vs',h=>by simp only[cons_append,fy];rw[Ka (by simpa using h)]
 |[],_,_::_,_,h=>by simp at h
 |_::_,_,[],_,h=>by simp at h
end
section
variable {C:Cx} {E:dY} {H:List Ob} {a:Act} {w:World}
theorem Hp{kp:Nat->Bool}{H:List Ob}(h:fC kp H){o:Nat}{x y:Ob}(ho:H[o]?=some x)(hk:x.kept=true->y.kept=true):fC kp (H.set o y):=fun i hi=>by
 obtain⟨z,hz,hkz⟩:=h i hi
 by_cases e:i=o
 .subst e
  rw[ho]at hz;cases hz
  exact⟨y,getElem?_set_self (List.getElem?_eq_some_iff.1 ho).1,hk hkz⟩
 .exact⟨z,by rw[getElem?_set_ne (Ne.symm e)];exact hz,hkz⟩
theorem F7{t:TypeId}{x y:Operand}{o:Oper}(ho:o.op=.store t x y){w':World}(h:(Instr.storeAt t (a.eval x) (a.eval y)).run C.P w=.ok () w'):(execOp a.eval o).run C.P w=.ok .skip w':=by
 obtain⟨dst,op,ty,pos,af,gd⟩:=o;cases ho;exact CN h
theorem qu(hR:Rel C E H a w)(o:Oper){t:TypeId}{x y:Operand}(ho:o.op=.store t x y)(hx:opOk true E x)(hy:opOk true E y){r:Ev}(hr:iq C.P C.kp E H t (opnd E x) (opnd E y)=some r)(hok:r.ok):fW C o a w r.v r.E r.H:=by
 obtain⟨K,G,hX,hS,hE,hd,hn,hkp⟩:=hR;have hvx:=zw hE rfl x hx;have hvy:=zw hE rfl y hy;unfold iq at hr;split at hr
 .rename_i oo sz i off hox
  split at hr
  rotate_left
  .cases hr
  rename_i f T sz' k p rows st hob
  cases hr;rw[hox]at hvx;simp only[VR]at hvx;obtain⟨g,b,n,cap,hg,hgb,hsv,hax⟩:=hvx;have hobS:=zn hob (by simp);obtain⟨h0,hk,gp,vs,hgp,hvl,hst,hbuf⟩:=hS.ob oo g _ hg hobS;have hKb:=(hS.gb oo g b hg hgb).2;have hol:=xI (k:=k) hvl;split at hok
  rotate_left
  .exact hok.elim
  rename_i ti ht
  split at hok
  ·-- the slice that has grown is written where it stood
   rename_i q j hoy
   obtain⟨rfl,rfl,rfl,rfl,rfl,hs1,hi⟩:=hok;rw[hoy]at hvy;simp only[VR]at hvy;obtain⟨gp',ad,m,cp,hgp',hgi,hay⟩:=hvy;obtain rfl:gp=gp':=Option.some.inj (hgp.symm.trans hgp')
   have hrl:(rows.getD j []).length=sz:=by
    obtain⟨_,xs,hxs,_⟩:=hbuf;have:=BI hxs _ (mem_of_getElem? (wW (k:=off) hvl hi))
    simpa using this
   obtain⟨w',hrun,e1,e2,e3,e4,hfr,hb'⟩:=F1 (P:=C.P) (off:=off) ht hbuf hgb hKb (by rw[hol];exact hi) (y:=a.eval y) (ds:=[.r (a.eval y)]) (by
    rw[BU (by rw[hay];rfl)];simp only[DRs,DR]
    exact⟨_,[],rfl,⟨rfl,by rw[hay];rfl⟩,rfl⟩) (by
    rw[BU (by rw[hay];rfl)];intro c hc;simp at hc
    rw[hc,hay];rfl) (by simp[hs1]) (by simp;omega)
   rw[<-hax]at hrun;refine⟨undef,w',.inr ⟨F7 ho hrun,rfl⟩,?_⟩;have hMn:Mn K K w.heap w'.heap:=⟨fun _ h=>h,fun i hi=>hfr i fun e=>hKb (e ▸ hi)⟩;refine⟨K,G,hX.trans (Ext.modA C.kp hg hgb e1 e2 e3 e4 hfr),hS.modA hg hgb e4 hfr ?_,fun m=>VR.grow hMn (fun _ _ h=>h) _ _ (hE m),hd,hn,Hp hkp hobS id,by simp only[VR]⟩;refine⟨h0,hk,gp,vs.set j (a.eval y),hgp,by simpa using hvl,⟨by simpa using hst.1,fun l _=>?_,hst.2.2⟩,?_⟩
   .by_cases e:l=j
    .subst e
     rw[getElem?_set_self (by omega),hgi,hay]
    .rw[getElem?_set_ne (Ne.symm e)]
     exact hst.2.1 l (by simpa using Ne.symm e)
   .rw[Hv hvl hi,<-HT (x:=.r (vs.getD j undef)) (by omega),<-FQ hvl j hi]
    exact hb'
  ·-- a slice of the call's own is put there
   rename_i m hoy
   split at hok
   rotate_left
   .exact hok.elim
   rename_i Te sze rr Te' sze' ins hom hop
   obtain⟨hkpp,hkpm,rfl,rfl,rfl,rfl,rfl,hs1,hi,hmp,hmo,hop'⟩:=hok;rw[hoy]at hvy;simp only[VR]at hvy;obtain⟨gm,hgm,hay,ad,m1,cp,hmsv⟩:=hvy;have homS:=zn hom (by simp);have hopS:=zn hop (by simp);have hmb:=hS.ob m gm _ hgm homS;obtain⟨hpb,hpl,hpi,hpd⟩:=hS.ob p gp _ hgp hopS
   have hrl:(rows.getD i []).length=sz:=by
    obtain⟨_,xs,hxs,_⟩:=hbuf;have:=BI hxs _ (mem_of_getElem? (wW (k:=off) hvl hi))
    simpa using this
   obtain⟨w',hrun,e1,e2,e3,e4,hfr,hb'⟩:=F1 (P:=C.P) (off:=off) ht hbuf hgb hKb (by rw[hol];exact hi) (y:=a.eval y) (ds:=[.r (a.eval y)]) (by
    rw[BU (by rw[hay,hmsv];rfl)];simp only[DRs,DR]
    exact⟨_,[],rfl,⟨rfl,by rw[hay,hmsv];rfl⟩,rfl⟩) (by
    rw[BU (by rw[hay,hmsv];rfl)];intro c hc;simp at hc
    rw[hc,hay,hmsv];rfl) (by simp[hs1]) (by simp;omega)
   rw[<-hax]at hrun;refine⟨undef,w',.inr ⟨F7 ho hrun,rfl⟩,?_⟩;have hMn:Mn K K w.heap w'.heap:=⟨fun _ h=>h,fun i hi=>hfr i fun e=>hKb (e ▸ hi)⟩;have hS1:St K G (H.set oo .gone) w':=hS.modA hg hgb e4 hfr trivial;have hpL:p<G.length:=(List.getElem?_eq_some_iff.1 hgp).1;have hmL:m<G.length:=(List.getElem?_eq_some_iff.1 hgm).1
   -- the new ghosts
   let g1:Gh:=⟨none,gp.sv,gp.inn.set i gm.sv⟩
   let G':=(G.set p g1).set m ⟨none,undef,[]⟩
   have hG'm:G'[m]?=some ⟨none,undef,[]⟩:=getElem?_set_self (by simpa using hmL)
   have hG'p:G'[p]?=some g1:=by
    show((G.set p g1).set m _)[p]?=_
    rw[getElem?_set_ne hmp,getElem?_set_self hpL]
   have hcs:∀{o':Nat} {g':Gh},G'[o']?=some g'->(o'=m/\g'=⟨none,undef,[]⟩)∨(o'=p/\g'=g1)∨(o'≠p/\o'≠m/\G[o']?=some g'):=by
    intro o' g' h
    rcases im h with⟨rfl,rfl,_⟩|⟨e,h⟩
    .exact .inl ⟨rfl,rfl⟩
    .rcases im h with⟨rfl,rfl,_⟩|⟨e',h⟩
     .exact .inr (.inl ⟨rfl,rfl⟩)
     .exact .inr (.inr ⟨e',e,h⟩)
   have hMg:Mg (fun q=>!(q == p)&&!(q == m)) G G':=fun o' g' ho' hg'=>by
    simp only[Bool.and_eq_true,Bool.not_eq_true',beq_eq_false_iff_ne]at ho'
    show((G.set p g1).set m _)[o']?=_
    rw[getElem?_set_ne (Ne.symm ho'.2),getElem?_set_ne (Ne.symm ho'.1)];exact hg'
   have hil:i<gp.inn.length:=by rw[<-hst.1,hvl];exact hi
   have hown:ru w' w' G G' (fun q=>!(q == p)&&!(q == m)) (fun _=>p) 0:=by
    intro o' g' b' hg' hb'
    rcases hcs hg' with⟨_,rfl⟩|⟨rfl,rfl⟩|⟨h1,h2,h3⟩
    .exact(rF hb').elim
    .rcases hb' with hb'|⟨v,hv,hvb⟩
     .cases hb'
     .rcases mem_or_eq_of_mem_set hv with hv|rfl
      .exact .inr (.inl ⟨o',gp,by simp,hgp,.inr ⟨v,hv,hvb⟩,rfl⟩)
      .exact .inr (.inl ⟨m,gm,by simp,hgm,.inl (xB hmb hvb),rfl⟩)
    .exact .inl ⟨by simp[h1,h2],h3⟩
   have hS2:St K G' ((((fc (fun q=>!(q == p)&&!(q == m)) H).set oo (.nst f T sz off p rows none)).set p (.inn Te sze (ins.set i rr))).set m .gone) w':=by
    refine hS1.modM (tgt:=fun _=>p) (on:=0) (f:=fun q=>!(q == p)&&!(q == m)) ?_ hMg (Nat.le_refl _) (fun _ _ _=>rfl) hown fun o' g' x' hg' hx'=>?_
    .show((G.set p g1).set m _).length=_
     simp[xU,hS.len]
    .rcases im hx' with⟨rfl,rfl,_⟩|⟨n1,hx'⟩
     .exact .inl trivial
     rcases im hx' with⟨rfl,rfl,_⟩|⟨n2,hx'⟩
     .rw[hG'p]at hg'
      cases hg';refine .inl ⟨rfl,by show(gp.inn.set i gm.sv).length=_;simpa using hpl,fun j v rows' hv hr'=>?_,fun j j' v u b' hv hu hb1 hb2=>?_⟩
      .rcases im (show(gp.inn.set i gm.sv)[j]?=some v from hv)with⟨rfl,rfl,_⟩|⟨n3,hv2⟩
       .rw[getElem?_set_self (by omega)]at hr'
        cases hr';have:=HH hmb;exact bufR.keep hMn (fun b' hb'=>hfr b' fun e=>hmo (hS.inj m oo gm g b' hgm hg (xB hmb hb') (by rw[hgb,e]))) this
       .rw[getElem?_set_ne (Ne.symm n3)]at hr'
        exact bufR.keep hMn (fun b' hb'=>hfr b' fun e=>hop' (hS.ijo oo o' g gp b' hg hgp (.inl (by rw[hgb,e])) (.inr ⟨v,mem_of_getElem? hv2,hb'⟩))) (hpi j v rows' hv2 hr')
      .rcases im (show(gp.inn.set i gm.sv)[j]?=some v from hv)with⟨rfl,rfl,_⟩|⟨n3,hv2⟩ <;> rcases im (show(gp.inn.set _ gm.sv)[j']?=some u from hu)with⟨rfl,rfl,_⟩|⟨n4,hu2⟩
       .rfl
       .exact absurd (hS.ijo m o' gm gp b' hgm hgp (.inl (xB hmb hb1)) (.inr ⟨u,mem_of_getElem? hu2,hb2⟩)) n1.symm
       .exact absurd (hS.ijo m o' gm gp b' hgm hgp (.inl (xB hmb hb2)) (.inr ⟨v,mem_of_getElem? hv2,hb1⟩)) n1.symm
       .exact hpd j j' v u b' hv2 hu2 hb1 hb2
     rcases im hx' with⟨rfl,rfl,_⟩|⟨n3,hx'⟩
     .rcases hcs hg' with⟨e,_⟩|⟨e,_⟩|⟨_,_,h3⟩
      .exact absurd e n1
      .exact absurd e n2
      rw[hg]at h3;cases h3
      refine .inl ⟨h0,hk,g1,vs.set i gm.sv,hG'p,by simpa using hvl,⟨by show _=(gp.inn.set i gm.sv).length;simpa using hst.1,fun l _=>?_,fun v hv=>?_⟩,?_⟩
      .show _=(gp.inn.set i gm.sv)[l]?
       by_cases e:l=i
       .subst e
        rw[getElem?_set_self (by omega),getElem?_set_self hil]
       .rw[getElem?_set_ne (Ne.symm e),getElem?_set_ne (Ne.symm e)]
        exact hst.2.1 l (by simp)
      .rcases mem_or_eq_of_mem_set (show v∈gp.inn.set i gm.sv from hv)with hv|rfl
       .exact hst.2.2 v hv
       .exact⟨_,_,_,hmsv⟩
      .rw[Hv hvl hi,<-hay,<-HT (x:=.r (vs.getD i undef)) (by omega),<-FQ hvl i hi]
       exact hb'
     obtain⟨y',hy',rfl⟩:=Gf hx';exact .inr ⟨by simp[n1,n2],y',by rw[getElem?_set_ne (Ne.symm n3)];exact hy',rfl⟩
   refine⟨K,G',(hX.trans (Ext.modA C.kp hg hgb e1 e2 e3 e4 hfr)).trans (Ext.modM (by show G.length<=((G.set p g1).set m _).length;simp) hMg rfl ⟨rfl,fun _=>Nat.le_refl _⟩ rfl (Nat.le_refl _) (fun _ _ _=>rfl) hown fun o' ho'=>?_),hS2,fun m'=>?_,hd,hn,fun o' ho'=>?_,by simp only[VR]⟩
   .simp only[Bool.and_eq_true,Bool.not_eq_true',beq_eq_false_iff_ne]
    exact⟨fun e=>(by subst e;rw[hkpp]at ho';cases ho'),fun e=>(by subst e;rw[hkpm]at ho';cases ho')⟩
   .rw[qh]
    exact VR.prune hMn hMg _ _ (hE m')
   .have hop2:o'≠p:=fun e=>by subst e;rw[hkpp]at ho';cases ho'
    have hom2:o'≠m:=fun e=>by subst e;rw[hkpm]at ho';cases ho'
    obtain⟨z,hz,hkz⟩:=hkp o' ho';rw[getElem?_set_ne (Ne.symm hom2),getElem?_set_ne (Ne.symm hop2)]
    by_cases e:o'=oo
    .subst e
     rw[hobS]at hz;cases hz
     exact⟨_,getElem?_set_self (by rw[xU,<-hS.len];exact(List.getElem?_eq_some_iff.1 hg).1),hkz⟩
    .rw[getElem?_set_ne (Ne.symm e)]
     exact Gi hz hkz
  ·-- data
   rename_i hnv hnb
   split at hok
   rotate_left
   .exact hok.elim
   rename_i ds hds
   obtain⟨hcell,hone,hsz,rfl,hi,hfit,hrl,hko⟩:=hok;have hcv:=vO hvy hcell;have hdd:=lj hcv hds;obtain⟨w',hrun,e1,e2,e3,e4,hfr,hb'⟩:=F1 (P:=C.P) (off:=off) ht hbuf hgb hKb (by rw[hol];exact hi) hdd (CY hcv hone) hsz hfit;rw[<-hax]at hrun;refine⟨undef,w',.inr ⟨F7 ho hrun,rfl⟩,?_⟩;have hMn:Mn K K w.heap w'.heap:=⟨fun _ h=>h,fun i hi=>hfr i fun e=>hKb (e ▸ hi)⟩;refine⟨K,G,hX.trans (Ext.modA C.kp hg hgb e1 e2 e3 e4 hfr),hS.modA hg hgb e4 hfr ?_,fun m=>VR.grow hMn (fun _ _ h=>h) _ _ (hE m),hd,hn,Hp hkp hobS id,by simp only[VR]⟩;refine⟨by simpa using h0,hk,gp,vs,hgp,by simpa using hvl,hst,?_⟩;rw[pf hvl hi,HR hrl,<-jf hko (by omega),<-FQ hvl i hi];exact hb'
 ·-- a cell of a slice that another slice holds
  rename_i p sz i j off hox
  cases hr;split at hok
  rotate_left
  .exact hok.elim
  rename_i ti ht
  split at hok
  rotate_left
  .exact hok.elim
  rename_i T sz' ins hop
  split at hok
  rotate_left
  .exact hok.elim
  rename_i ds hds
  obtain⟨hcell,hone,hsz,rfl,hj,hfit⟩:=hok;rw[hox]at hvx;simp only[VR]at hvx;obtain⟨g,b,n,cap,hg,hgi,hax⟩:=hvx;have hopS:=zn hop (by simp);obtain⟨hpb,hpl,hpi,hpd⟩:=hS.ob p g _ hg hopS;have hil:=(List.getElem?_eq_some_iff.1 hgi).1
  have hins:ins[i]?=some (ins.getD i []):=by rw[getElem?_eq_getElem (by omega),getD_eq_getElem?_getD,getElem?_eq_getElem (by omega)];rfl
  have hob:own g b:=.inr ⟨_,mem_of_getElem? hgi,rfl⟩;have hKb:=(hS.gbo p g b hg hob).2;have hcv:=vO hvy hcell;have hdd:=lj hcv hds;have hbuf:=hpi i _ _ hgi hins
  have hrl:((ins.getD i []).getD j []).length=sz:=by
   obtain⟨_,xs,hxs,_⟩:=hbuf;exact BI hxs _ (by rw[getD_eq_getElem?_getD (l:=ins.getD i []),getElem?_eq_getElem hj];exact getElem_mem hj)
  obtain⟨w',hrun,e1,e2,e3,e4,hfr,hb'⟩:=F1 (P:=C.P) (off:=off) ht hbuf rfl hKb hj hdd (CY hcv hone) hsz hfit;rw[<-hax]at hrun;refine⟨undef,w',.inr ⟨F7 ho hrun,rfl⟩,?_⟩;have hMn:Mn K K w.heap w'.heap:=⟨fun _ h=>h,fun i hi=>hfr i fun e=>hKb (e ▸ hi)⟩;refine⟨K,G,hX.trans (Ext.modO C.kp hg hob e1 e2 e3 e4 hfr),hS.modO hg hob e4 hfr ?_,fun m=>VR.grow hMn (fun _ _ h=>h) _ _ (hE m),hd,hn,Hp hkp hopS (fun h=>by cases h),by simp only[VR]⟩;refine⟨hpb,by simpa using hpl,fun l v rows hv hr=>?_,hpd⟩
  by_cases e:l=i
  .subst e
   rw[getElem?_set_self (by omega)]at hr;cases hr
   rw[hgi]at hv;cases hv
   rw[HR hrl];exact hb'
  .rw[getElem?_set_ne (Ne.symm e)]at hr
   exact bufR.keep hMn (fun b' hb'=>hfr b' fun e'=>e (hpd l i v _ b' hv hgi hb' (by rw[e'];rfl))) (hpi l v rows hv hr)
 .cases hr
theorem wg{K:Nat->Prop}{bo:Option Nat}{sv:Value}{T:TypeId}{sz:Nat}{rows:List (List Dt)}(hbuf:bufR K w.heap bo sv T sz rows){i:TypeInfo}(hi:i.size=sz):∃news,nk C.P w i.size sv rows.length news/\DRss K w.heap sz news rows:=by
 obtain⟨hlim,xs,hxs,hh⟩:=hbuf
 rcases hh with⟨⟨a,rfl⟩,rfl,_⟩|⟨b,cap,cur,fr,rfl,h2,h3,h4,h5,h6,h7,h8⟩
 .exact⟨[],⟨fun _=>rfl,fun _ _=>by cases a <;> simp[Builtin.firstCells,loadCells,loadCellsFrom],by simp⟩,by simp[DRss]⟩
 .have hl:=hxs.length
  refine⟨xs,⟨fun _=>rfl,fun w' hw'=>?_,by rw[hl,hi]⟩,hxs⟩;refine run_firstCells_some (P:=C.P) w' i.size rows.length _ _ _ xs (by rw[hl,hi]) (fun j v hj=>?_);rw[lc,cell_of_row w' b (0+j) cur T fr (by rw[hw'];exact h3),Nat.zero_add];rw[<-h8,getElem?_take]at hj;split at hj
  .rw[<-Array.getElem?_toList];exact hj
  .cases hj
theorem jR{vs inn:List Value}(h:FG none vs inn):vs=inn:=ext_getElem? fun j=>h.2.1 j (by simp)
theorem F0{t e:TypeId}{esz eb:Nat}{ez:List Value}(hk:z7 C.P t=.slice e esz eb ez):C.P.underlying t=some (.slice e)/\∃i z,C.P.info? e=some i/\i.size=esz/\i.bytes=eb/\i.zero=some z/\z.cells.toList=ez:=by
 obtain⟨ti,ht,hk'⟩:=zH hk (by simp);obtain⟨hu,⟨i,hi1,hi2,hi3⟩,hez⟩:=iT ht hk';unfold vb at hez;rw[hi1]at hez;simp at hez;obtain⟨z,h1,h2⟩:=hez;exact⟨hu,i,z,hi1,hi2,hi3,h1,h2⟩
theorem xn(hR:Rel C E H a w)(o:Oper){c:Call}{x y:Operand}{t u:TypeId}(h1:c.callee=.builtin .append)(h2:c.args.toList=[x,y])(h3:c.argTypes.toList=[t,u])(ho:o.op=.call c)(hx:opOk true E x)(hy:opOk true E y)
  {r:Ev} (hr:uP C.P C.kp E H t u (opnd E x) (opnd E y)=some r) (hok:r.ok):fW C o a w r.v r.E r.H:=by
 obtain⟨K,G,hX,hS,hE,hd,hn,hkp⟩:=hR;have hvx:=zw hE rfl x hx;have hvy:=zw hE rfl y hy;unfold uP at hr;split at hr
 ·-- to a slice that another slice holds
  rename_i q i hox
  cases hr;split at hok
  rotate_left
  .exact hok.elim
  rename_i e esz eb ez rows' Te sze ins hk hsrc hop
  split at hok
  rotate_left
  .exact hok.elim
  rename_i f T sz k p rows st hob
  obtain⟨hkq,hq0,rfl,rfl,rfl,rfl,hel,heb,hlim,hil,hso⟩:=hok;rw[hox]at hvx;simp only[VR]at hvx;obtain⟨gp,ad,n0,cap,hgp,hgi,hax⟩:=hvx;obtain⟨hu,ti,z,hi1,hi2,hi3,hi4,hi5⟩:=F0 hk;have hopS:=zn hop (by simp);have hobS:=zn hob (by simp);obtain⟨hpb,hpl,hpi,hpd⟩:=hS.ob p gp _ hgp hopS;obtain⟨g,hg,h0,hk0,gp',vs,hgp',hvl,hst,hbuf⟩:=hS.ghost hobS;obtain rfl:gp=gp':=Option.some.inj (hgp.symm.trans hgp');have hgl:=(List.getElem?_eq_some_iff.1 hgi).1
  have hins:ins[i]?=some (ins.getD i []):=by rw[getElem?_eq_getElem (by omega),getD_eq_getElem?_getD,getElem?_eq_getElem (by omega)];rfl
  have hib:=hpi i _ _ hgi hins
  have hownv:∀b,hJ (.slice ad n0 cap)=some b->own gp b:=fun b hb=>.inr ⟨_,mem_of_getElem? hgi,hb⟩
  obtain⟨news,d,hdu,hdd,hsr,hdr⟩:=xr (C:=C) hS hvy hsrc hso hi2
  have hby:(ins.getD i []++rows').length*ti.bytes<=140737488355328:=by
   rw[hi3];have:=Nat.mul_le_mul hlim heb;unfold eh at this;omega
  obtain⟨sv,w',bn,e1,⟨sa,sn,sc,e2⟩,e3,e4,e5,e6,e7,e8,e9⟩:=kZ (P:=C.P) hS.kb (fun b hb=>hS.gbo p gp b hgp (hownv b hb)) hib (t:=t) (u:=u) (ty:=o.type) hu hdu hdd hi1 hi2 hi4 (by rw[<-hel,<-hi5];simp) hsr hdr.ones hdr rfl hlim hby;refine⟨sv,w',.inl (yG h1 h2 h3 ho (by rw[hax];exact e1)),?_⟩
  let g1:Gh:=⟨gp.blk,gp.sv,gp.inn.set i sv⟩
  have hpL:p<G.length:=(List.getElem?_eq_some_iff.1 hgp).1;have hG'p:(G.set p g1)[p]?=some g1:=getElem?_set_self hpL
  have hMg:Mg (· != p) G (G.set p g1):=fun o' g' ho' hg'=>by rw[getElem?_set_ne (by simpa using Ne.symm (by simpa using ho'))];exact hg'
  have hfr:∀b,b<w.heap.size->(∀(o':Nat) (g':Gh),(o' != p)=false->G[o']?=some g'->¬ own g' b)->w'.heap[b]?=w.heap[b]?:=fun b hb hno=>e7 b hb fun e=>hno p gp (by simp) hgp (hownv b e)
  have hMn:Mn K K w.heap w'.heap:=⟨fun _ h=>h,fun b hb=>hfr b (hS.kb b hb) fun o' g' _ hg' e=>(hS.gbo o' g' b hg' e).2 hb⟩
  have hne:p-1≠p:=by omega
  have hown:ru w w' G (G.set p g1) (· != p) (fun q=>q) p:=by
   intro o' g' b hg' hb'
   rcases im hg' with⟨rfl,rfl,_⟩|⟨n1,h⟩
   .rcases hb' with hb'|⟨v,hv,hvb⟩
    .exact .inr (.inl ⟨o',gp,by simp,hgp,.inl hb',rfl⟩)
    .rcases mem_or_eq_of_mem_set (show v∈gp.inn.set i sv from hv)with hv|rfl
     .exact .inr (.inl ⟨o',gp,by simp,hgp,.inr ⟨v,hv,hvb⟩,rfl⟩)
     .have hb1:=xB e9 hvb
      rcases(e8 b hb1).2 with h|h
      .exact .inr (.inl ⟨o',gp,by simp,hgp,hownv b h,rfl⟩)
      .exact .inr (.inr ⟨h,(e8 b hb1).1,rfl⟩)
   .exact .inl ⟨by simpa using n1,h⟩
  have hinn:∀{j:Nat} {v:Value},g1.inn[j]?=some v->(j=i/\v=sv)∨(j≠i/\gp.inn[j]?=some v):=fun h=>by
   rcases im (show(gp.inn.set i sv)[_]?=some _ from h)with⟨h1,h2,_⟩|h
   .exact .inl ⟨h1,h2⟩
   .exact .inr h
  have hsep:∀{j:Nat} {v:Value} {b:Nat},j≠i->gp.inn[j]?=some v->hJ v=some b->bn≠some b:=fun {j v b} hj hv hb hbn=>by
   rcases(e8 b hbn).2 with h|h
   .exact hj (hpd j i v _ b hv hgi hb h)
   .have:=(hS.gbo p gp b hgp (.inr ⟨v,mem_of_getElem? hv,hb⟩)).1
    omega
  have hS2:St K (G.set p g1) (((fc (· != p) H).set (p-1) (.nst f T sz k p rows (some i))).set p (.inn e esz (ins.set i (ins.getD i []++rows')))) w':=by
   refine hS.modM (tgt:=fun q=>q) (on:=p) (f:=(· != p)) (by simp[xU,hS.len]) hMg e6 hfr hown fun o' g' x' hg' hx'=>?_
   rcases im hx' with⟨rfl,rfl,_⟩|⟨n1,hx'⟩
   .rw[hG'p]at hg';cases hg'
    refine .inl ⟨hpb,by show(gp.inn.set i sv).length=_;simpa using hpl,fun j v rr hv hr=>?_,fun j j' v u' b hv hu' hb1 hb2=>?_⟩
    .rcases hinn hv with⟨rfl,rfl⟩|⟨n2,hv2⟩
     .rw[getElem?_set_self (by omega)]at hr
      cases hr;exact HH e9
     .rw[getElem?_set_ne (Ne.symm n2)]at hr
      exact bufR.keep hMn (fun b hb=>e7 b (hS.gbo o' gp b hgp (.inr ⟨v,mem_of_getElem? hv2,hb⟩)).1 fun h=>n2 (hpd j i v _ b hv2 hgi hb h)) (hpi j v rr hv2 hr)
    .rcases hinn hv with⟨rfl,rfl⟩|⟨n2,hv2⟩ <;> rcases hinn hu' with⟨rfl,rfl⟩|⟨n3,hu2⟩
     .rfl
     .exact absurd (xB e9 hb1) (hsep n3 hu2 hb2)
     .exact absurd (xB e9 hb2) (hsep n2 hv2 hb1)
     .exact hpd j j' v u' b hv2 hu2 hb1 hb2
   rcases im hx' with⟨rfl,rfl,_⟩|⟨n2,hx'⟩
   .rw[getElem?_set_ne (Ne.symm hne),hg]at hg';cases hg'
    refine .inl ⟨h0,hk0,g1,vs,hG'p,hvl,⟨by show _=(gp.inn.set i sv).length;simpa using hst.1,fun l hl=>?_,fun v hv=>?_⟩,bufR.keep hMn (fun b hb=>e7 b (hS.gb _ g b hg hb).1 fun h=>hne (hS.ijo _ p g gp b hg hgp (.inl hb) (hownv b h))) hbuf⟩
    .show _=(gp.inn.set i sv)[l]?
     rw[getElem?_set_ne (fun e=>hl (by rw[e]))];exact hst.2.1 l (by simp)
    .rcases mem_or_eq_of_mem_set (show v∈gp.inn.set i sv from hv)with hv|rfl
     .exact hst.2.2 v hv
     .exact⟨_,_,_,e2⟩
   obtain⟨y',hy',rfl⟩:=Gf hx';exact .inr ⟨by simpa using n1,y',hy',rfl⟩
  refine⟨K,G.set p g1,hX.trans (Ext.modM (by simp) hMg e3 e4 e5 e6 hfr hown fun o' ho'=>?_),hS2,fun m'=>?_,hd,hn,fun o' ho'=>?_,?_⟩
  .simp only[bne_iff_ne,ne_eq]
   exact fun e=>by subst e;rw[hkq]at ho';cases ho'
  .rw[qh]
   exact VR.prune hMn hMg _ _ (hE m')
  .have hop2:o'≠p:=fun e=>by subst e;rw[hkq]at ho';cases ho'
   obtain⟨z',hz',hkz⟩:=hkp o' ho';rw[getElem?_set_ne (Ne.symm hop2)]
   by_cases e:o'=p-1
   .subst e
    rw[hobS]at hz';cases hz'
    exact⟨_,getElem?_set_self (by rw[xU];exact(List.getElem?_eq_some_iff.1 hobS).1),hkz⟩
   .rw[getElem?_set_ne (Ne.symm e)]
    exact Gi hz' hkz
  .simp only[VR]
   exact⟨g1,sa,sn,sc,hG'p,by show(gp.inn.set i sv)[i]?=_;rw[getElem?_set_self hgl,e2],e2⟩
 .rename_i oo hox
  split at hr
  rotate_left
  .cases hr
  rename_i f T sz k p rows st hob
  cases hr;split at hok
  rotate_left
  .exact hok.elim
  rename_i e esz eb ez o2 hk hoy
  split at hok
  rotate_left
  .exact hok.elim
  rename_i Te sze ins f2 T2 sz2 k2 p2 rows2 st2 hop hob2
  split at hok
  rotate_left
  .exact hok.elim
  rename_i Te2 sze2 ins2 hop2
  obtain⟨hko,hkpp,hko2,hkp2,rfl,rfl,rfl,rfl,rfl,rfl,rfl,rfl,rfl,hel,heb,hlim,hku,n1,n2,n3,n4,n5,n6⟩:=hok;rw[hox]at hvx;rw[hoy]at hvy;simp only[VR]at hvx hvy;obtain⟨g,hg,hax,_⟩:=hvx;obtain⟨g2,hg2,hay,_⟩:=hvy;obtain⟨hu,ti,z,hi1,hi2,hi3,hi4,hi5⟩:=F0 hk
  have hopS:=zn hop (by simp);have hobS:=zn hob (by simp)
  have hop2S:=zn hop2 (by simp);have hob2S:=zn hob2 (by simp)
  obtain⟨h0,hk0,gp,vs,hgp,hvl,hst,hbuf⟩:=hS.ob oo g _ hg hobS;obtain⟨h0',hk0',gp2,vs2,hgp2,hvl2,hst2,hbuf2⟩:=hS.ob o2 g2 _ hg2 hob2S;obtain⟨hpb,hpl,hpi,hpd⟩:=hS.ob p gp _ hgp hopS;obtain⟨hpb2,hpl2,hpi2,hpd2⟩:=hS.ob p2 gp2 _ hgp2 hop2S;have hov:=xI (k:=k2) hvl;have hov2:=xI (k:=k2) hvl2
  obtain⟨d,hdu,hdd⟩:∃d,C.P.underlying u=some d/\((∃k,d=.slice k)∨d=.string):=by
   split at hku
   .rename_i k' _ _ _ hku'
    obtain⟨ti',ht',hk''⟩:=zH hku' (by simp);exact⟨_,(iT ht' hk'').1,.inl ⟨_,rfl⟩⟩
   .exact hku.elim
  obtain⟨news,hsr,hdr⟩:=wg (C:=C) hbuf2 (i:=ti) hi2
  have hlen:(fy k2 rows vs++fy k2 rows2 vs2).length=(rows++rows2).length:=by simp[hov,hov2]
  have hby:(fy k2 rows vs++fy k2 rows2 vs2).length*ti.bytes<=140737488355328:=by
   rw[hi3,hlen];have:=Nat.mul_le_mul hlim heb;unfold eh at this;omega
  obtain⟨sv,w',bn,e1,⟨sa,sn,sc,e2⟩,e3,e4,e5,e6,e7,e8,e9⟩:=kZ (P:=C.P) hS.kb (fun b hb=>hS.gb oo g b hg hb) hbuf (t:=t) (u:=u) (ty:=o.type) hu hdu hdd hi1 hi2 hi4 (by rw[<-hel,<-hi5];simp) hsr hdr.ones hdr rfl (by rw[hlen];exact hlim) hby;refine⟨sv,w',.inl (yG h1 h2 h3 ho (by rw[hax,hay];exact e1)),?_⟩
  let F:Nat->Bool:=fun q=>!(q == oo)&&(!(q == p)&&(!(q == o2)&&!(q == p2)))
  have hF:∀q,F q=true↔q≠oo/\q≠p/\q≠o2/\q≠p2:=fun q=>by simp[F]
  let gA:Gh:=⟨bn,sv,[]⟩
  let gB:Gh:=⟨none,gp.sv,gp.inn++gp2.inn⟩
  let dead:Gh:=⟨none,undef,[]⟩
  let G':=(((G.set oo gA).set p gB).set o2 dead).set p2 dead
  have L1:oo<G.length:=(List.getElem?_eq_some_iff.1 hg).1;have L2:p<G.length:=(List.getElem?_eq_some_iff.1 hgp).1
  have hG'o:G'[oo]?=some gA:=by
   show((((G.set oo gA).set p gB).set o2 dead).set p2 dead)[oo]?=_
   rw[getElem?_set_ne (Ne.symm n3),getElem?_set_ne (Ne.symm n2),getElem?_set_ne (Ne.symm n1),getElem?_set_self L1]
  have hG'p:G'[p]?=some gB:=by
   show((((G.set oo gA).set p gB).set o2 dead).set p2 dead)[p]?=_
   rw[getElem?_set_ne (Ne.symm n5),getElem?_set_ne (Ne.symm n4),getElem?_set_self (by simpa using L2)]
  have hcs:∀{o':Nat} {g':Gh},G'[o']?=some g'->(o'=p2/\g'=dead)∨(o'=o2/\g'=dead)∨(o'=p/\g'=gB)∨(o'=oo/\g'=gA)∨(F o'=true/\G[o']?=some g'):=by
   intro o' g' h
   rcases im h with⟨rfl,rfl,_⟩|⟨m1,h⟩
   .exact .inl ⟨rfl,rfl⟩
   rcases im h with⟨rfl,rfl,_⟩|⟨m2,h⟩
   .exact .inr (.inl ⟨rfl,rfl⟩)
   rcases im h with⟨rfl,rfl,_⟩|⟨m3,h⟩
   .exact .inr (.inr (.inl ⟨rfl,rfl⟩))
   rcases im h with⟨rfl,rfl,_⟩|⟨m4,h⟩
   .exact .inr (.inr (.inr (.inl ⟨rfl,rfl⟩)))
   .exact .inr (.inr (.inr (.inr ⟨(hF o').2 ⟨m4,m3,m2,m1⟩,h⟩)))
  have hMg:Mg F G G':=fun o' g' ho' hg'=>by
   obtain⟨m1,m2,m3,m4⟩:=(hF o').1 ho'
   show((((G.set oo gA).set p gB).set o2 dead).set p2 dead)[o']?=_
   rw[getElem?_set_ne (Ne.symm m4),getElem?_set_ne (Ne.symm m3),getElem?_set_ne (Ne.symm m2),getElem?_set_ne (Ne.symm m1)];exact hg'
  have hFo:F oo=false:=by simp[F]
  have hFp:F p=false:=by simp[F]
  have hFp2:F p2=false:=by simp[F]
  have hfr:∀b,b<w.heap.size->(∀(o':Nat) (g':Gh),F o'=false->G[o']?=some g'->¬ own g' b)->w'.heap[b]?=w.heap[b]?:=fun b hb hno=>e7 b hb fun e=>hno oo g hFo hg (.inl e)
  have hMn:Mn K K w.heap w'.heap:=⟨fun _ h=>h,fun b hb=>hfr b (hS.kb b hb) fun o' g' _ hg' e=>(hS.gbo o' g' b hg' e).2 hb⟩
  have hown:ru w w' G G' F (fun q=>if q=p2 then p else q) oo:=by
   intro o' g' b hg' hb'
   rcases hcs hg' with⟨_,rfl⟩|⟨_,rfl⟩|⟨rfl,rfl⟩|⟨rfl,rfl⟩|⟨h1',h2'⟩
   .exact(rF hb').elim
   .exact(rF hb').elim
   .rcases hb' with hb'|⟨v,hv,hvb⟩
    .cases hb'
    .rcases mem_append.1 hv with hv|hv
     .exact .inr (.inl ⟨o',gp,hFp,hgp,.inr ⟨v,hv,hvb⟩,if_neg n5⟩)
     .exact .inr (.inl ⟨p2,gp2,hFp2,hgp2,.inr ⟨v,hv,hvb⟩,if_pos rfl⟩)
   .rcases hb' with hb'|⟨v,hv,_⟩
    .rcases(e8 b hb').2 with h|h
     .exact .inr (.inl ⟨o',g,hFo,hg,.inl h,if_neg n3⟩)
     .exact .inr (.inr ⟨h,(e8 b hb').1,rfl⟩)
    .cases hv
   .exact .inl ⟨h1',h2'⟩
  have kin:∀{q:Nat} {gq:Gh} {v:Value} {b:Nat},q≠oo->G[q]?=some gq->v∈gq.inn->hJ v=some b->w'.heap[b]?=w.heap[b]?:=fun {q gq v b} hq hgq hv hb =>
   e7 b (hS.gbo q gq b hgq (.inr ⟨v,hv,hb⟩)).1 fun h=>hq (hS.ijo q oo gq g b hgq hg (.inr ⟨v,hv,hb⟩) (.inl h))
  have inj2:∀{j:Nat} {v:Value},gB.inn[j]?=some v->(j<gp.inn.length/\gp.inn[j]?=some v)∨(gp.inn.length<=j/\gp2.inn[j-gp.inn.length]?=some v):=fun {j v} h=>by
   rcases Nat.lt_or_ge j gp.inn.length with hj|hj
   .rw[show gB.inn=gp.inn++gp2.inn from rfl,getElem?_append_left hj]at h;exact .inl ⟨hj,h⟩
   .rw[show gB.inn=gp.inn++gp2.inn from rfl,getElem?_append_right hj]at h;exact .inr ⟨hj,h⟩
  have hS2:St K G' (((((fc F H).set oo (.nst f T2 sz2 k2 p (rows++rows2) none)).set p (.inn Te2 sze2 (ins++ins2))).set o2 .gone).set p2 .gone) w':=by
   refine hS.modM (tgt:=fun q=>if q=p2 then p else q) (on:=oo) (f:=F) ?_ hMg e6 hfr hown fun o' g' x' hg' hx'=>?_
   .show((((G.set oo gA).set p gB).set o2 dead).set p2 dead).length=_
    simp[xU,hS.len]
   rcases im hx' with⟨rfl,rfl,_⟩|⟨m1,hx'⟩
   .exact .inl trivial
   rcases im hx' with⟨rfl,rfl,_⟩|⟨m2,hx'⟩
   .exact .inl trivial
   rcases im hx' with⟨rfl,rfl,_⟩|⟨m3,hx'⟩
   .rw[hG'p]at hg';cases hg'
    refine .inl ⟨rfl,by show(gp.inn++gp2.inn).length=_;simp[hpl,hpl2],fun j v rr hv hr=>?_,fun j j' v u' b hv hu' hb1 hb2=>?_⟩
    .rcases inj2 hv with⟨hj,hv2⟩|⟨hj,hv2⟩
     .rw[getElem?_append_left (by omega)]at hr
      exact bufR.keep hMn (fun b hb=>kin n1.symm hgp (mem_of_getElem? hv2) hb) (hpi j v rr hv2 hr)
     .rw[getElem?_append_right (by omega),<-hpl]at hr
      exact bufR.keep hMn (fun b hb=>kin n3.symm hgp2 (mem_of_getElem? hv2) hb) (hpi2 _ v rr hv2 hr)
    .rcases inj2 hv with⟨hj,hv2⟩|⟨hj,hv2⟩ <;> rcases inj2 hu' with⟨hj',hu2⟩|⟨hj',hu2⟩
     .exact hpd j j' v u' b hv2 hu2 hb1 hb2
     .exact absurd (hS.ijo o' p2 gp gp2 b hgp hgp2 (.inr ⟨v,mem_of_getElem? hv2,hb1⟩) (.inr ⟨u',mem_of_getElem? hu2,hb2⟩)) n5
     .exact absurd (hS.ijo o' p2 gp gp2 b hgp hgp2 (.inr ⟨u',mem_of_getElem? hu2,hb2⟩) (.inr ⟨v,mem_of_getElem? hv2,hb1⟩)) n5
     .have:=hpd2 _ _ v u' b hv2 hu2 hb1 hb2
      omega
   rcases im hx' with⟨rfl,rfl,_⟩|⟨m4,hx'⟩
   .rw[hG'o]at hg';cases hg'
    have q1:=jR hst;have q2:=jR hst2;refine .inl ⟨hlim,hk0,gB,vs++vs2,hG'p,by simp[hvl,hvl2],⟨by show _=(gp.inn++gp2.inn).length;rw[q1,q2],fun l _=>by show _=(gp.inn++gp2.inn)[l]?;rw[q1,q2],fun v hv=>?_⟩,by rw[Ka hvl];exact e9⟩
    rcases mem_append.1 (show v∈gp.inn++gp2.inn from hv)with hv|hv
    .exact hst.2.2 v hv
    .exact hst2.2.2 v hv
   obtain⟨y',hy',rfl⟩:=Gf hx';exact .inr ⟨(hF o').2 ⟨m4,m3,m2,m1⟩,y',hy',rfl⟩
  have hkF:∀o',C.kp o'=true->F o'=true:=fun o' ho'=>(hF o').2 ⟨fun e=>(by subst e;rw[hko]at ho';cases ho'),fun e=>(by subst e;rw[hkpp]at ho';cases ho'),fun e=>(by subst e;rw[hko2]at ho';cases ho'),fun e=>(by subst e;rw[hkp2]at ho';cases ho')⟩
  refine⟨K,G',hX.trans (Ext.modM (by show G.length<=((((G.set oo gA).set p gB).set o2 dead).set p2 dead).length;simp) hMg e3 e4 e5 e6 hfr hown hkF),hS2,fun m'=>?_,hd,hn,fun o' ho'=>?_,?_⟩
  .rw[qh]
   exact VR.prune hMn hMg _ _ (hE m')
  .obtain⟨m1,m2,m3,m4⟩:=(hF o').1 (hkF o' ho')
   obtain⟨z',hz',hkz⟩:=hkp o' ho';rw[getElem?_set_ne (Ne.symm m4),getElem?_set_ne (Ne.symm m3),getElem?_set_ne (Ne.symm m2),getElem?_set_ne (Ne.symm m1)];exact Gi hz' hkz
  .simp only[VR]
   exact⟨gA,hG'o,rfl,sa,sn,sc,e2⟩
 .cases hr
theorem lY{K:Nat->Prop}{G:List Gh}(hX:Ext C.kp C.K0 C.G0 C.w0 K G w)(hS:St K G H w)(hE:ig K w.heap G a E)(hd:a.defers=[])(hnn:a.tmps.size=C.n)(hkp:fC C.kp H){cs:Array Value}{T Te:TypeId}{sz k sze n cap:Nat}{rows:List (List Dt)}{vs xs:List Value}{ins:List (List (List Dt))}
  (hx:DRss K w.heap sz xs (fy k rows vs)) (hvl:vs.length=rows.length) (hil:ins.length=rows.length) (hn:rows.length=n) (hlim:n<=eh) (hk:k<sz) (hle:n<=cap) (hcap:cap<=maxLen) (hcs:cs.size=cap*sz) (htake:cs.toList.take (n*sz)=xs)
  (hnil:∀v∈vs,v=.slice none 0 0) (hins:∀r∈ins,r=[]) :
  RelV C E (H++[.nst false T sz k (H.length+1) rows none,.inn Te sze ins]) (.slice (some ⟨w.heap.size,0,none⟩) n cap) (.buf H.length) a (w.alloc (.cells cs T (0,0))):=by
 subst hn
 let w1:=w.alloc (.cells cs T (0,0))
 let sv:Value:=.slice (some ⟨w.heap.size,0,none⟩) rows.length cap
 have hM:Mn K K w.heap w1.heap:=Mn.alloc hS.kb _;have hS1:St K (G++[⟨some w.heap.size,sv,[]⟩]) (H++[.gone]) w1:=hS.push trivial
 let gN:Gh:=⟨some w.heap.size,sv,[]⟩
 let gI:Gh:=⟨none,undef,vs⟩
 have hlG:=hS.len
 have hgN:(G++[gN,gI])[H.length]?=some gN:=by rw[<-hlG,getElem?_append_right (Nat.le_refl _)];simp
 have hgI:(G++[gN,gI])[H.length+1]?=some gI:=by rw[<-hlG,getElem?_append_right (by omega)];simp
 have hG2:∀(o:Nat) (g:Gh),G[o]?=some g->(G++[gN,gI])[o]?=some g:=fun o g h=>by rw[getElem?_append_left (List.getElem?_eq_some_iff.1 h).1];exact h
 have hvb:∀v∈vs,hJ v=none:=fun v hv=>by rw[hnil v hv];rfl
 have cs2:∀{α:Type} {l:List α} {x y z:α} {o:Nat},(l++[x,y])[o]?=some z->(o<l.length/\l[o]?=some z)∨(o=l.length/\z=x)∨(o=l.length+1/\z=y):=by
  intro α l x y z o h
  rcases Nat.lt_or_ge o l.length with h1|h1
  .rw[getElem?_append_left h1]at h;exact .inl ⟨h1,h⟩
  .rw[getElem?_append_right h1]at h
   match hd:o-l.length with
   |0=>rw[hd]at h;exact .inr (.inl ⟨by omega,(Option.some.inj h).symm⟩)
   |1=>rw[hd]at h;exact .inr (.inr ⟨by omega,(Option.some.inj h).symm⟩)
   |m+2=>rw[hd]at h;cases h
 have hS2:St K (G++[gN,gI]) (H++[.nst false T sz k (H.length+1) rows none,.inn Te sze ins]) w1:=by
  refine⟨by simp[hlG],hS1.kb,fun o g b hg hb=>?_,fun o o' g g' b hg hg' hb hb'=>?_,fun o g x hg hx'=>?_,hS1.tb⟩
  .rcases cs2 hg with⟨h1,h⟩|⟨h1,rfl⟩|⟨h1,rfl⟩
   .exact hS1.gbo o g b (by rw[getElem?_append_left h1];exact h) hb
   .exact hS1.gbo o gN b (by rw[h1,getElem?_append_right (Nat.le_refl _)];simp[gN]) hb
   .rcases hb with hb|⟨v,hv,hvb'⟩
    .cases hb
    .rw[hvb v hv]at hvb';cases hvb'
  .have old:∀{o:Nat} {g:Gh},(G++[gN,gI])[o]?=some g->own g b->(G++[gN])[o]?=some g:=fun {o g} hg hb=>by
    rcases cs2 hg with⟨h1,h⟩|⟨h1,rfl⟩|⟨h1,rfl⟩
    .rw[getElem?_append_left h1];exact h
    .rw[h1,getElem?_append_right (Nat.le_refl _)];simp
    .rcases hb with hb|⟨v,hv,hvb'⟩
     .cases hb
     .rw[hvb v hv]at hvb';cases hvb'
   exact hS1.ijo o o' g g' b (old hg hb) (old hg' hb') hb hb'
  .rcases cs2 hg with⟨h1,h⟩|⟨h1,rfl⟩|⟨h1,rfl⟩
   .rcases cs2 hx' with⟨_,h'⟩|⟨h2,_⟩|⟨h2,_⟩
    .exact ObR.keep hM (f:=fun _=>true) (fun o g _ h=>hG2 o g h) (fun b hb=>heap_alloc_old w _ (hS.gbo o g b h hb).1) (Ob.all_true _) (hS.ob o g x h h')
    .omega
    .omega
   .rcases cs2 hx' with⟨h2,_⟩|⟨_,rfl⟩|⟨h2,_⟩
    .omega
    .refine⟨hlim,hk,gI,vs,hgI,hvl,⟨rfl,fun _ _=>rfl,fun v hv=>⟨none,0,0,hnil v hv⟩⟩,?_⟩
     have hol:=xI (k:=k) hvl;exact⟨by rw[hol];exact hlim,xs,DRss.mono hM _ _ _ hx,.inr ⟨w.heap.size,cap,cs,(0,0),by rw[hol],rfl,heap_alloc_new w _,Free.zero _,by rw[hol];exact hle,hcap,Nat.le_of_eq hcs.symm,by rw[hol];exact htake⟩⟩
    .omega
   .rcases cs2 hx' with⟨h2,_⟩|⟨h2,_⟩|⟨_,rfl⟩
    .omega
    .omega
    .refine⟨rfl,by show vs.length=_;omega,fun j v r hv hr=>?_,fun i j v u b hv hu hb _=>?_⟩
     .have h1:=hnil v (mem_of_getElem? hv)
      have h2:=hins r (mem_of_getElem? hr);rw[h1,h2];exact⟨by simp,[],by simp[DRss],.inl ⟨⟨none,rfl⟩,rfl,rfl⟩⟩
     .rw[hvb v (mem_of_getElem? hv)]at hb;cases hb
 have hX2:Ext C.kp C.K0 C.G0 C.w0 K (G++[gN,gI]) w1:=by
  refine hX.trans { os:=rfl,tape:=⟨rfl,fun _=>Nat.le_refl _⟩,output:=rfl,size:=by show w.heap.size<=(w.alloc _).heap.size;rw[World.size_alloc];omega,k:=fun _ h=>h,knew:=fun _ h=>.inl h,glen:=by simp,gown:=fun o g b hg hb=>?_,gsame:=fun o g0 _ h0=>hG2 o g0 h0,frame:=fun b hb _=>heap_alloc_old w _ hb }
  rcases cs2 hg with⟨h1,h⟩|⟨h1,rfl⟩|⟨h1,rfl⟩
  .exact .inl ⟨o,g,h,hb⟩
  .obtain rfl:=yA hb;exact .inr (Nat.le_refl _)
  .rcases hb with hb|⟨v,hv,hvb'⟩
   .cases hb
   .rw[hvb v hv]at hvb';cases hvb'
 refine⟨K,G++[gN,gI],hX2,hS2,fun m=>VR.grow hM hG2 _ _ (hE m),hd,hnn,fun o ho=>?_,?_⟩
 .obtain⟨z,hz,hkz⟩:=hkp o ho
  exact⟨z,by rw[getElem?_append_left (List.getElem?_eq_some_iff.1 hz).1];exact hz,hkz⟩
 .simp only[VR]
  exact⟨gN,hgN,rfl,_,_,_,rfl⟩
theorem pg{k:Nat}{z:List Dt}{v:Value}:∀n:Nat,fy k (List.replicate n z) (List.replicate n v)=List.replicate n (z.set k (.r v))
 |0=>rfl
 |n+1=>by simp only[replicate_succ,fy,pg n]
theorem yk{K:Nat->Prop}{h:Array Obj}{G:List Gh}{cs:List Value}{vs:List Va}{k:Nat}{v:Value}{z:List Dt}(hv:VRs K h G cs vs)(hz:eK (vs.set k (.p (.b false)))=some z)(hc:cs[k]?=some v)(h1:v.oneCell'=true):DRs K h cs (z.set k (.r v)):=by
 have h2:VRs K h G (cs.set k (.bool false)) (vs.set k (.p (.b false))):=hv.set (by simp only[VR,DR]) k;have h3:=(lj h2 hz).set (show DR K h v (.r v)by simp only[DR];exact⟨trivial,h1⟩) k
 have h4:(cs.set k (.bool false)).set k v=cs:=by
  rw[set_set];obtain⟨hl,he⟩:=List.getElem?_eq_some_iff.1 hc;rw[<-he];exact set_getElem_self hl
 rwa [h4]at h3
theorem wJ(hR:Rel C E H a w)(o:Oper){t:TypeId}{x y:Operand}(ho:o.op=.makeSlice t x y)(hx:opOk true E x)(hy:opOk true E y){r:Ev}(hr:tn C.P E H t (opnd E x) (opnd E y)=some r)(hok:r.ok):fW C o a w r.v r.E r.H:=by
 obtain⟨K,G,hX,hS,hE,hd,hnn,hkp⟩:=hR;have hvx:=zw hE rfl x hx;have hvy:=zw hE rfl y hy;unfold tn at hr;split at hr
 rotate_left
 .cases hr
 rename_i e esz eb ez hk
 split at hr
 rotate_left
 .cases hr
 rename_i k Te sze hnest
 cases hr;split at hok
 rotate_left
 .exact hok.elim
 rename_i z kl n kc m hz hxx hyy
 obtain⟨hzk,hel,hkz,hez0,hn0,hnm,hml,heb⟩:=hok;obtain⟨hu,i,zv,hi1,hi2,hi3,hzv,hzc⟩:=F0 hk;rw[hxx]at hvx;rw[hyy]at hvy;simp only[VR,DR]at hvx hvy;have hml':=hml;unfold eh at hml'
 have hbytes:(i.bytes:Int)*m<=281474976710656:=by
  rw[hi3];have h1:(eb:Int)*m<=512*m:=Int.mul_le_mul_of_nonneg_right (by omega) (by omega);omega
 have hrun:=run_make (P:=C.P) w t e i zv hu hi1 hzv kl kc n m hn0 hnm hbytes (by omega);rw[hi2]at hrun;refine⟨_,_,.inl (by obtain⟨dst,op,ty,pos,af,gd⟩:=o;cases ho;exact qg (by rw[hvx.1,hvy.1];exact hrun)),?_⟩;have hmade:=C0 (sz:=esz) (z:=zv.cells) (by rw[hzc];exact hel) (by omega) m.toNat
 have hlenrep:∀n:Nat,((List.replicate n zv.cells.toList).flatten).length=n*esz:=by
  intro n
  induction n with
  |zero=>simp
  |succ n ih=>rw[replicate_succ,flatten_cons,length_append,ih,hzc,hel,Nat.add_mul];omega
 have hzd:DRs K w.heap ez (z.set k (.r (.slice none 0 0))):=yk (G:=G) (vL hzk) hz hez0 rfl;have hzl:=hzd.length;refine lY hX hS hE hd hnn hkp (xs:=(List.replicate n.toNat zv.cells.toList).flatten) (vs:=List.replicate n.toNat (.slice none 0 0)) ?_ (by simp) (by simp) (by simp) (by unfold eh;omega) hkz (by omega) (by simp only[maxLen];omega) (size_madeCells _ _) ?_ (fun v hv=>(mem_replicate.1 hv).2) (fun r hr=>(mem_replicate.1 hr).2)
 .rw[pg]
  have:=DRss.replicate hzd n.toNat;rw[hzc]
  rwa [show(z.set k (.r (.slice none 0 0))).length=esz by omega]at this
 .rw[hmade]
  have:m.toNat=n.toNat+(m.toNat-n.toNat):=by omega
  rw[this,<-replicate_append_replicate,flatten_append,take_append_of_le_length (by rw[hlenrep];exact Nat.le_refl _)];exact take_of_length_le (by rw[hlenrep];exact Nat.le_refl _)
theorem CA:∀{vs:List Va} {k:Nat} {d d':Dt} {z:List Dt},eK (vs.set k (.p d))=some z->eK (vs.set k (.p d'))=some (z.set k d')
 |[],_,_,_,z,h=>by simp only[set_nil,eK]at h|-;cases h;rfl
 |v::vs,0,d,d',z,h=>by
  simp only[set_cons_zero,eK]at h|-;split at h
  .cases h;rfl
  .cases h
 |v::vs,k+1,d,d',z,h=>by
  simp only[set_cons_succ]at h|-
  cases v with
  |p x =>
   simp only[eK]at h;split at h
   .rename_i ds hd;cases h;simp only[eK,CA hd];rfl
   .cases h
  |nils =>
   simp only[eK]at h;split at h
   .rename_i ds hd;cases h;simp only[eK,CA hd];rfl
   .cases h
  |full x =>
   simp only[eK]at h;split at h
   .rename_i ds hd;cases h;simp only[eK,CA hd];rfl
   .cases h
  |_=>simp[eK]at h
theorem uK{l:List Va}{j:Nat}{v:Va}(h:rl l j=v)(hv:v≠.top):l[j]?=some v:=by
 unfold rl at h
 cases hd:l.drop j with
 |nil=>rw[hd]at h;exact absurd h.symm hv
 |cons x r=>rw[hd]at h;rw[jD hd];simp only at h;rw[h]
theorem m6{K:Nat->Prop}{G:List Gh}{o:Oper}{t:TypeId}{ps:Array (Nat×Operand)}(ho:o.op=.buildSlice t 1 ps){x:Operand}(hps:ps.toList=[(0,x)]){e:TypeId}{esz eb:Nat}{ez:List Value}(hk:z7 C.P t=.slice e esz eb ez)
  {z0 row:List Dt} (hzk:nC ez) (hz0:eK (ez.map cv)=some z0) (hel:ez.length=esz) (h0:0<esz) (hsm:esz<=16777216) {cs:List Va} (hx:VR K w.heap G (a.eval x) (.agg cs)) (hcs:eK cs=some row) (hrl:row.length=esz) :
  ∃cs',(execOp a.eval o).run C.P w=.ok (.value (.slice (some ⟨w.heap.size,0,none⟩) 1 1)) (w.alloc (.cells cs' e))/\DRss K w.heap esz cs'.toList [row]:=by
 obtain⟨hu,i,zv,hi1,hi2,hi3,hz1,hzc⟩:=F0 hk
 have hzr:(zeroValue e).run C.P w=.ok zv w:=by simp[zeroValue,typeInfo,hi1,hz1]
 have hzd:DRs K w.heap ez z0:=lj (vL (G:=G) hzk) hz0;have hzl:=hzd.length
 have hrep:DRss K w.heap esz (madeCells zv.cells (1*esz)).toList (List.replicate 1 z0):=by
  rw[C0 (by rw[hzc];exact hel) h0,hzc];have:=DRss.replicate hzd 1
  rwa [show z0.length=esz by omega]at this
 have hfr:xD esz (List.replicate 1 z0) [(0,.agg cs)]=some [row]:=by
  simp only[xD,gL,hcs,Va.isCell,hrl,length_replicate];simp
 obtain⟨cs',hf,hrd,_⟩:=Ig (ps:=[(0,a.eval x)]) hfr hrep rfl (fun j c v hc hv=>by
  cases j with
  |zero=>simp at hc hv;subst hc;subst hv;exact hx
  |succ j=>simp at hc)
 have hes:(sizeOf e).run C.P w=.ok esz w:=lr (by simp[gO,hi1,hi2])
 have hsm':¬ (1*esz > 2^24):=by omega
 have hn0:¬ 1*esz=0:=by omega
 have hmap:(ps.map fun x=>(x.1,a.eval x.2)).toList=[(0,a.eval x)]:=by rw[Array.toList_map,hps];rfl
 refine⟨cs',?_,hrd⟩
 have hrun:(Instr.buildSlice t 1 (ps.map fun x=>(x.1,a.eval x.2))).run C.P w=.ok (.slice (some ⟨w.heap.size,0,none⟩) 1 1) (w.alloc (.cells cs' e)):=by
  have hnz:∀z':Array Value,z'.toList=ez->(Array.range (1*esz)).map (fun x=>z'[x % z'.size]!)=madeCells z' (1*esz):=fun _ _=>rfl
  simp only[Instr.buildSlice,run_underlying hu,hes,Sem.run_bind,Result.andThen_ok,if_neg hsm',Sem.run_pure,if_neg hn0,hzr,hnz _ hzc,hmap,hf,newRow,run_newObj];rfl
 obtain⟨dst,op,ty,pos,af,gd⟩:=o;cases ho;exact qg hrun
theorem xf(hR:Rel C E H a w)(o:Oper){t:TypeId}{n:Nat}{ps:Array (Nat×Operand)}(ho:o.op=.buildSlice t n ps){r:Ev}(hr:uB C.P C.kp E H t n ps.toList=some r)(hok:r.ok):fW C o a w r.v r.E r.H:=by
 obtain⟨K,G,hX,hS,hE,hd,hnn,hkp⟩:=hR;unfold uB at hr;split at hr
 rotate_left
 .cases hr
 rename_i e esz eb ez hk
 split at hr
 rotate_left
 .cases hr
 rename_i k Te sze hnest
 cases hr;split at hok
 rotate_left
 .exact hok.elim
 rename_i x hone0
 obtain⟨rfl,hps⟩:=jq hone0;split at hok
 rotate_left
 .exact hok.elim
 rename_i cs hxx
 split at hok
 rotate_left
 .exact hok.elim
 rename_i z z0 hz hz0
 split at hok
 ·-- none is held yet
  rename_i hat
  obtain⟨hx,hone,hzk,hel,hcl,hks,hsm⟩:=hok;have hvx:=zw hE rfl x hx;rw[hxx]at hvx;simp only[VR]at hvx;obtain⟨vals,hax,hvs⟩:=hvx;have hatk:=uK hat (by simp);obtain⟨c,hc1,hc2⟩:=hvs.get k _ hatk;simp only[VR]at hc2;subst hc2
  have hcs':VRs K w.heap G vals (cs.set k (.p (.r (.slice none 0 0)))):=by
   have:=hvs.set (show VR K w.heap G (.slice none 0 0) (.p (.r (.slice none 0 0)))by simp only[VR,DR];exact⟨trivial,rfl⟩) k;obtain⟨hl,he⟩:=List.getElem?_eq_some_iff.1 hc1
   rwa [show vals.set k (.slice none 0 0)=vals by rw[<-he];exact set_getElem_self hl]at this
  have hrow:=CA (d':=.r (.slice none 0 0)) hz
  have hrl:(z.set k (.r (.slice none 0 0))).length=esz:=by
   have h1:=(lj hcs' hrow).length;have h2:=hvs.length;omega
  obtain⟨cs',hrun,hrd⟩:=m6 (C:=C) ho hps hk hzk hz0 hel (by omega) hsm (by rw[hax];simp only[VR];exact⟨vals,rfl,hcs'⟩) hrow hrl;have hcl':=hrd.length;refine⟨_,_,.inl hrun,?_⟩;exact lY hX hS hE hd hnn hkp (xs:=cs'.toList) (vs:=[.slice none 0 0]) (rows:=[z]) (ins:=[[]]) hrd rfl rfl rfl (by unfold eh;omega) hks (Nat.le_refl _) (by simp only[maxLen];omega) (by simpa using hcl') (by rw[take_of_length_le];simp at hcl'|-;omega) (fun v hv=>by simpa using hv) (fun r hr=>by simpa using hr)
 ·-- a slice of the call's own goes in
  rename_i m hat
  split at hok
  rotate_left
  .exact hok.elim
  rename_i Te' sze' rr hom
  obtain⟨hkm,rfl,rfl,hx,hone,hzk,hel,hcl,hks,hsm⟩:=hok;have hvx:=zw hE rfl x hx;rw[hxx]at hvx;simp only[VR]at hvx;obtain⟨vals,hax,hvs⟩:=hvx;have hatk:=uK hat (by simp);obtain⟨c,hc1,hc2⟩:=hvs.get k _ hatk;simp only[VR]at hc2;obtain⟨gm,hgm,rfl,ma,mn,mc,hmsv⟩:=hc2;have homS:=zn hom (by simp);have hmb:=hS.ob m gm _ hgm homS
  have h1c:gm.sv.oneCell'=true:=by rw[hmsv];rfl
  have hcs':VRs K w.heap G vals (cs.set k (.p (.r gm.sv))):=by
   have:=hvs.set (show VR K w.heap G gm.sv (.p (.r gm.sv))by simp only[VR,DR];exact⟨trivial,h1c⟩) k;obtain⟨hl,he⟩:=List.getElem?_eq_some_iff.1 hc1
   rwa [show vals.set k gm.sv=vals by rw[<-he];exact set_getElem_self hl]at this
  have hrow:=CA (d':=.r gm.sv) hz
  have hrl:(z.set k (.r gm.sv)).length=esz:=by
   have h1:=(lj hcs' hrow).length;have h2:=hvs.length;omega
  obtain⟨cs',hrun,hrd⟩:=m6 (C:=C) ho hps hk hzk hz0 hel (by omega) hsm (by rw[hax];simp only[VR];exact⟨vals,rfl,hcs'⟩) hrow hrl;have hcl':=hrd.length;simp at hcl';refine⟨_,_,.inl hrun,?_⟩
  let w1:=w.alloc (.cells cs' e)
  let sv:Value:=.slice (some ⟨w.heap.size,0,none⟩) 1 1
  let gN:Gh:=⟨some w.heap.size,sv,[]⟩
  let gI:Gh:=⟨none,undef,[gm.sv]⟩
  let dead:Gh:=⟨none,undef,[]⟩
  have hM:Mn K K w.heap w1.heap:=Mn.alloc hS.kb _;have hS1:St K (G++[gN]) (H++[.gone]) w1:=hS.push trivial;have hlG:=hS.len;have hmL:m<G.length:=(List.getElem?_eq_some_iff.1 hgm).1
  let G':=G.set m dead++[gN,gI]
  have hlen1:(G.set m dead).length=H.length:=by simp[hlG]
  have hgN:G'[H.length]?=some gN:=by show(G.set m dead++[gN,gI])[_]?=_;rw[getElem?_append_right (by omega),hlen1];simp
  have hgI:G'[H.length+1]?=some gI:=by show(G.set m dead++[gN,gI])[_]?=_;rw[getElem?_append_right (by omega),hlen1];simp
  have cs2:∀{α:Type} {l:List α} {x y z:α} {o:Nat},(l++[x,y])[o]?=some z->(o<l.length/\l[o]?=some z)∨(o=l.length/\z=x)∨(o=l.length+1/\z=y):=by
   intro α l x y z o h
   rcases Nat.lt_or_ge o l.length with h1|h1
   .rw[getElem?_append_left h1]at h;exact .inl ⟨h1,h⟩
   .rw[getElem?_append_right h1]at h
    match hd:o-l.length with
    |0=>rw[hd]at h;exact .inr (.inl ⟨by omega,(Option.some.inj h).symm⟩)
    |1=>rw[hd]at h;exact .inr (.inr ⟨by omega,(Option.some.inj h).symm⟩)
    |m+2=>rw[hd]at h;cases h
  have hcs:∀{o':Nat} {g':Gh},G'[o']?=some g'->(o'=m/\g'=dead)∨(o'≠m/\o'<H.length/\G[o']?=some g')∨(o'=H.length/\g'=gN)∨(o'=H.length+1/\g'=gI):=by
   intro o' g' h
   rcases cs2 h with⟨h1,h⟩|⟨h1,h⟩|⟨h1,h⟩
   .rcases im h with⟨h2,h3,_⟩|⟨h2,h3⟩
    .exact .inl ⟨h2,h3⟩
    .exact .inr (.inl ⟨h2,by omega,h3⟩)
   .exact .inr (.inr (.inl ⟨by omega,h⟩))
   .exact .inr (.inr (.inr ⟨by omega,h⟩))
  have hMg0:∀(o':Nat) (g':Gh),o'≠m->G[o']?=some g'->G'[o']?=some g':=fun o' g' h h'=>by
   have:=(List.getElem?_eq_some_iff.1 h').1
   show(G.set m dead++[gN,gI])[_]?=_
   rw[getElem?_append_left (by simpa using this),getElem?_set_ne (Ne.symm h)];exact h'
  have hMg:Mg (· != m) G G':=fun o' g' ho' hg'=>hMg0 o' g' (by simpa using ho') hg'
  have hMg1:Mg (· != m) (G++[gN]) G':=fun o' g' ho' hg'=>by
   have ho2:o'≠m:=by simpa using ho'
   rcases Nat.lt_or_ge o' G.length with h1|h1
   .rw[getElem?_append_left h1]at hg';exact hMg0 o' g' ho2 hg'
   .have h2:=(List.getElem?_eq_some_iff.1 hg').1
    simp at h2
    obtain rfl:o'=G.length:=by omega
    rw[getElem?_append_right (Nat.le_refl _)]at hg';simp at hg';subst hg'
    rw[hlG];exact hgN
  have hown:ru w1 w1 (G++[gN]) G' (· != m) (fun _=>H.length+1) 0:=by
   intro o' g' b hg' hb'
   rcases hcs hg' with⟨_,rfl⟩|⟨h1,h2,h3⟩|⟨rfl,rfl⟩|⟨rfl,rfl⟩
   .exact(rF hb').elim
   .exact .inl ⟨by simpa using h1,by rw[getElem?_append_left (by omega)];exact h3⟩
   .exact .inl ⟨by simp;omega,by rw[<-hlG,getElem?_append_right (Nat.le_refl _)];simp⟩
   .rcases hb' with hb'|⟨v,hv,hvb⟩
    .cases hb'
    .obtain rfl:v=gm.sv:=by simpa using (show v∈[gm.sv]from hv)
     exact .inr (.inl ⟨m,gm,by simp,by rw[getElem?_append_left hmL];exact hgm,.inl (xB hmb hvb),rfl⟩)
  have hS2:St K G' ((fc (· != m) H).set m .gone++[.nst false e esz k (H.length+1) [z] none,.inn Te' sze' [rr]]) w1:=by
   refine hS1.modM (tgt:=fun _=>H.length+1) (on:=0) (f:=(· != m)) ?_ hMg1 (Nat.le_refl _) (fun _ _ _=>rfl) hown fun o' g' x' hg' hx'=>?_
   .show(G.set m dead++[gN,gI]).length=_
    simp[xU,hlG]
   have hHl:((fc (· != m) H).set m .gone).length=H.length:=by simp[xU]
   rcases cs2 hx' with⟨h1,hx'⟩|⟨h1,rfl⟩|⟨h1,rfl⟩
   .rcases im hx' with⟨_,rfl,_⟩|⟨h2,hx'⟩
    .exact .inl trivial
    .obtain⟨y',hy',rfl⟩:=Gf hx'
     exact .inr ⟨by simpa using h2,y',by rw[getElem?_append_left (by omega)];exact hy',rfl⟩
   .rw[hHl]at h1
    subst h1
    rw[hgN]at hg';cases hg'
    refine .inl ⟨by show(1:Nat)<=eh;unfold eh;omega,hks,gI,[gm.sv],hgI,rfl,⟨rfl,fun _ _=>rfl,fun v hv=>?_⟩,?_⟩
    .obtain rfl:v=gm.sv:=by simpa using (show v∈[gm.sv]from hv)
     exact⟨_,_,_,hmsv⟩
    .exact⟨by show(1:Nat)<=eh;unfold eh;omega,cs'.toList,DRss.mono hM _ _ _ hrd,.inr ⟨w.heap.size,1,cs',(0,0),rfl,rfl,heap_alloc_new w _,Free.zero _,Nat.le_refl _,by simp only[maxLen];omega,by have:=hcl';omega,by rw[take_of_length_le];simp[fy];omega⟩⟩
   .rw[hHl]at h1
    subst h1
    rw[hgI]at hg';cases hg'
    refine .inl ⟨rfl,rfl,fun j v r hv hr=>?_,fun i j v u b hv hu _ _=>?_⟩
    .cases j with
     |zero =>
      simp[gI]at hv hr
      subst hv;subst hr
      exact HH (bufR.keep hM (fun b hb=>heap_alloc_old w _ (hS.gb m gm b hgm hb).1) hmb)
     |succ j=>simp at hr
    .have h1:=(List.getElem?_eq_some_iff.1 hv).1
     have h2:=(List.getElem?_eq_some_iff.1 hu).1;simp[gI]at h1 h2;omega
  have hkf:∀o',C.kp o'=true->(o' != m)=true:=fun o' ho'=>by
   simp only[bne_iff_ne,ne_eq]
   exact fun e=>by subst e;rw[hkm]at ho';cases ho'
  refine⟨K,G',(hX.trans (Ext.push C.kp _ sv)).trans (Ext.modM (by show(G++[gN]).length<=(G.set m dead++[gN,gI]).length;simp) hMg1 rfl ⟨rfl,fun _=>Nat.le_refl _⟩ rfl (Nat.le_refl _) (fun _ _ _=>rfl) hown hkf),hS2,fun m'=>?_,hd,hnn,fun o' ho'=>?_,?_⟩
  .rw[qh]
   exact VR.prune hM hMg _ _ (hE m')
  .have hne:o'≠m:=by simpa using hkf o' ho'
   obtain⟨z',hz',hkz⟩:=hkp o' ho';have hol:=(List.getElem?_eq_some_iff.1 hz').1;rw[getElem?_append_left (by simpa [xU]using hol),getElem?_set_ne (Ne.symm hne)];exact Gi hz' hkz
  .simp only[VR]
   exact⟨gN,hgN,rfl,_,_,_,rfl⟩
 .exact hok.elim
end

def ub(C:Cx)(E:dY)(H:List Ob)(o:Oper):Prop :=
 (fH C.P C.kp E H o.op).ok->∀a w,Rel C E H a w->fW C o a w (fH C.P C.kp E H o.op).v (fH C.P C.kp E H o.op).E (fH C.P C.kp E H o.op).H
theorem oA(C:Cx)(E:dY)(H:List Ob)(o:Oper):ub C E H o:=by
 intro hok a w hR;unfold fH at hok|-
 cases hN:gH C.P C.kp E H o.op with
 |none=>rw[hN]at hok;exact w4 C E H o hok a w hR
 |some r =>
  rw[hN]at hok;simp only at hok|-
  cases ho:o.op <;> rw[ho]at hN <;> simp only[gH]at hN <;> try (cases hN)
  case buildSlice t n ps=>exact xf hR o ho hN hok
  case store t x y =>
   unfold vA at hN;split at hN
   .rename_i r' hr'
    cases hN;exact qu (r:=r') hR o ho hok.1 hok.2.1 hr' hok.2.2
   .cases hN
  case makeSlice t l c =>
   unfold vA at hN;split at hN
   .rename_i r' hr'
    cases hN;exact wJ (r:=r') hR o ho hok.1 hok.2.1 hr' hok.2.2
   .cases hN
  case call c =>
   split at hN
   .rename_i x y t u hap
    obtain⟨h1,h2,h3⟩:=jM hap;unfold vA at hN;split at hN
    .rename_i r' hr'
     cases hN;exact xn (r:=r') hR o h1 h2 h3 ho hok.1 hok.2.1 hr' hok.2.2
    .cases hN
   .cases hN

structure Bs where
 K0:Nat->Prop
 G0:List Gh
 w0:World
def en:List Bool->Nat->Bool
 |[],_=>false
 |b::_,0=>b
 |_::l,n+1=>en l n
abbrev cx(P:Program)(kl:List Bool)(n:Nat)(B:Bs):Cx:=⟨P,en kl,B.K0,B.G0,B.w0,n⟩

abbrev Qt:=Exit->dY->List Ob->Prop
def Js(C:Cx)(Q:Qt):Exit->Act->World->Prop:=fun e a w=>∃E H,Q e E H/\Rel C E H a w
def Wp(P:Program)(kl:List Bool)(n:Nat)(B:Bs)(c:Code)(Q:Qt)(E:dY)(H:List Ob):Prop :=
 B.G0.length=kl.length->∀a w,Rel (cx P kl n B) E H a w->c.wp P (Js (cx P kl n B) Q) a w
def zS(K:dY->List Ob->Prop)(Q:Qt):Qt
 |.normal,E,H=>K E H
 |e,E,H=>Q e E H
def zL(id:Nat)(Q:Qt):Qt
 |.exit i,E,H=>if i=id then Q .normal E H else Q (.exit i) E H
 |e,E,H=>Q e E H

section
variable {P:Program} {kl:List Bool} {n:Nat} {B:Bs} {Q:Qt} {E:dY} {H:List Ob}
theorem Wp.mono{c:Code}{Q':Qt}(h:Wp P kl n B c Q E H)(hq:∀e E H,Q e E H->Q' e E H):Wp P kl n B c Q' E H :=
 fun hB a w hR=>wp_mono (h hB a w hR) fun _ _ _ ⟨E',H',h1,h2⟩=>⟨E',H',hq _ _ _ h1,h2⟩
theorem Wp.skip(h:Q .normal E H):Wp P kl n B .skip Q E H:=fun _ _ _ hR=>wp_skip ⟨E,H,h,hR⟩
theorem Wp.ret(h:Q .ret E H):Wp P kl n B .ret Q E H:=fun _ _ _ hR=>wp_ret ⟨E,H,h,hR⟩
theorem Wp.exit{id:Nat}(h:Q (.exit id) E H):Wp P kl n B (.exit id) Q E H:=fun _ _ _ hR=>wp_exit ⟨E,H,h,hR⟩
theorem Wp.label{l:Nat}(h:Q .normal E H):Wp P kl n B (.label l) Q E H:=fun _ _ _ hR=>wp_label ⟨E,H,h,hR⟩
theorem Wp.seq{x y:Code}(h:∀K:dY->List Ob->Prop,(∀E H,Wp P kl n B y Q E H->K E H)->Wp P kl n B x (zS K Q) E H):Wp P kl n B (.seq x y) Q E H:=by
 intro hB a w hR;refine wp_seq (wp_mono (h _ (fun _ _ h=>h) hB a w hR) ?_);intro e a' w' ⟨E',H',hq,hR'⟩
 cases e <;> first|exact hq hB a' w' hR'|exact⟨E',H',hq,hR'⟩
theorem Wp.block{id:Nat}{c:Code}(h:Wp P kl n B c (zL id Q) E H):Wp P kl n B (.block id c) Q E H:=by
 intro hB a w hR;refine wp_block (wp_mono (h hB a w hR) ?_);intro e a' w' ⟨E',H',hq,hR'⟩
 cases e with
 |exit i =>
  simp only[Exit.inBlock,zL]at hq|-;split
  .rename_i e;rw[if_pos e]at hq;exact⟨E',H',hq,hR'⟩
  .rename_i e;rw[if_neg e]at hq;exact⟨E',H',hq,hR'⟩
 |_=>exact⟨E',H',hq,hR'⟩
theorem Wp.cond{c:Operand}{x y:Code}{b:Bool}(hc:eu E c=.p (.b b))(hk:rA c)(ht:b=true->Wp P kl n B x Q E H)(hf:b=false->Wp P kl n B y Q E H):Wp P kl n B (.cond c x y) Q E H:=by
 intro hB a w hR;have hR':=hR;obtain⟨K,G,hX,hS,hE,_⟩:=hR;have:=ke hE c hk;rw[hc]at this;simp only[VR,DR]at this;exact wp_cond_split this (fun h=>ht h hB a w hR') (fun h=>hf h hB a w hR')
theorem Rel.weak{C:Cx}{a:Act}{w:World}{E E':dY}(h:Rel C E H a w)(hE:∀m,eC E' m=.top∨eC E' m=eC E m):Rel C E' H a w:=by
 obtain⟨K,G,h1,h2,h3,h4⟩:=h;refine⟨K,G,h1,h2,fun m=>?_,h4⟩
 rcases hE m with e|e
 .rw[e];simp[VR]
 .rw[e];exact h3 m
end

def Rg(P:Program)(kl:List Bool)(n:Nat)(B:Bs)(ops:Array Oper)(l:List Oper)(E:dY)(H:List Ob)(K:dY->List Ob->Prop):Prop :=
 B.G0.length=kl.length->∀a w (Q:Exit->Act->World->Prop),Rel (cx P kl n B) E H a w->(∀E' H' a' w',K E' H'->Rel (cx P kl n B) E' H' a' w'->Q .normal a' w')->wpList P ops Q l a w

def fz(n:Nat):Option Tmp->Prop
 |none=>True
 |some d=>d<n
def ib(ops:List Oper)(E:dY)(j:Nat)(want:Bool):Option Bool:=match ops[j]? with
 |some oj=>match oj.dst with
  |some d=>match eC E d with
   |.p (.b t)=>some (t == want)
   |.cnd c (.p (.b t))=>some (c&&(t == want))
   |_=>none
  |none=>none
 |none=>none

inductive Cl where
 |pure|eff|stop
def xe(P:Program):Op->Cl
 |.binOp .eql t _ _ _=>match z7 P t with
  |.slice _ _ _ _=>.stop
  |_=>.pure
 |.binOp .neq t _ _ _=>match z7 P t with
  |.slice _ _ _ _=>.stop
  |_=>.pure
 |.alloc _|.box _ _|.buildSlice _ _ _|.store _ _ _|.makeSlice _ _ _|.makeMap _ _|.mapUpdate _ _ _ _|.insert _ _ _ _=>.eff
 |.move _|.assign _|.pick _ _ _|.build _ _|.load _ _|.nilCheck _|.binOp _ _ _ _ _|.unOp _ _ _|.makeFunc _ _ _|.slice _ _ _ _ _|.fieldAddr _ _ _|.field _ _ _|.indexAddr _ _ _|.index _ _ _|.extract _ _|.lookup _ _ _ _=>.pure
 |.convert _ d _=>match z7 P d with
  |.slice _ _ _ _=>.eff
  |_=>.pure
 |.call c=>match c.callee with
  |.builtin .append=>.eff
  |.builtin .delete=>.eff
  |.builtin .unsafeSliceData=>.eff
  |.builtin .unsafeString=>.eff
  |.builtin .len=>.pure
  |.builtin .cap=>.pure
  |.builtin .min=>.pure
  |.builtin .max=>.pure
  |_=>.stop
 |_=>.stop

structure Ac where
 E:dY
 H:List Ob
 ok:Prop
def Ez(n:Nat)(dst:Option Tmp)(ac:Ac)(r:Pv):Ac:=⟨eB ac.E dst r.v,ac.H,ac.ok/\fz n dst/\r.ok⟩
def EA(n:Nat)(dst:Option Tmp)(ac:Ac)(g:Bool)(r:Pv):Ac:=⟨eB ac.E dst (.cnd g r.v),ac.H,ac.ok/\fz n dst/\(g=true->r.ok)⟩
def EB(n:Nat)(dst:Option Tmp)(ac:Ac)(r:Ev):Ac:=⟨eB r.E dst r.v,r.H,ac.ok/\fz n dst/\r.ok⟩
def badA:Ac:=⟨[],[],False⟩
def lI(P:Program)(kl:List Bool)(n:Nat)(ops:List Oper)(o:Oper)(ac:Ac):Ac:=match o.guard with
 |none=>match xe P o.op with
  |.pure=>Ez n o.dst ac (eY P true ac.E ac.H o.op)
  |.eff=>EB n o.dst ac (fH P (en kl) ac.E ac.H o.op)
  |.stop=>badA
 |some (j,want)=>match xe P o.op with
  |.pure=>match ib ops ac.E j want with
   |some g=>EA n o.dst ac g (eY P g ac.E ac.H o.op)
   |none=>badA
  |_=>badA
def kD(P:Program)(o:Oper):Bool:=match xe P o.op with
 |.stop=>true
 |_=>false
inductive Rr where
 |done (ac:Ac)
 |stop (l:List Oper) (ac:Ac)
def eL(P:Program)(kl:List Bool)(n:Nat)(ops:List Oper):List Oper->Ac->Rr
 |[],ac=>.done ac
 |o::l,ac=>if kD P o=true then .stop (o::l) ac else eL P kl n ops l (lI P kl n ops o ac)
def eS(P:Program)(kl:List Bool)(n:Nat)(B:Bs)(ops:Array Oper)(K:dY->List Ob->Prop):Rr->Prop
 |.done ac=>ac.ok/\K ac.E ac.H
 |.stop l ac=>ac.ok/\Rg P kl n B ops l ac.E ac.H K

section
variable {P:Program} {kl:List Bool} {n:Nat} {B:Bs} {K:dY->List Ob->Prop} {E:dY} {H:List Ob} {ops:Array Oper}

theorem zM{dst:Option Tmp}(h:fz n dst):∀d,dst=some d->d<n:=fun d e=>by subst e;exact h
theorem Rg.nil(h:K E H):Rg P kl n B ops [] E H K:=fun _ a w _ hR hK=>hK E H a w h hR
theorem Rg.eff{o:Oper}{l:List Oper}(hg:o.guard=none)(hd:fz n o.dst)(hok:(fH P (en kl) E H o.op).ok)(h:Rg P kl n B ops l (eB (fH P (en kl) E H o.op).E o.dst (fH P (en kl) E H o.op).v) (fH P (en kl) E H o.op).H K) :
  Rg P kl n B ops (o::l) E H K:=by
 intro hB a w Q hR hK
 refine wpList_plain hg fun K' hK'=>?_
 obtain⟨c,w',hr,hR'⟩:=oA (cx P kl n B) E H o hok a w hR;unfold Oper.wp
 rcases hr with hr|⟨hr,rfl⟩
 .rw[hr];exact hK' _ _ (h hB _ _ _ (hR'.put o.dst (zM hd)) hK)
 .rw[hr];exact hK' _ _ (h hB _ _ _ (hR'.put o.dst (zM hd)) hK)
theorem Rg.pure{o:Oper}{l:List Oper}(hg:o.guard=none)(hd:fz n o.dst)(hok:(eY P true E H o.op).ok)(h:Rg P kl n B ops l (eB E o.dst (eY P true E H o.op).v) H K) :
  Rg P kl n B ops (o::l) E H K:=by
 intro hB a w Q hR hK
 refine wpList_plain hg fun K' hK'=>?_
 obtain⟨Kk,G,hX,hS,hE,hdf,hn,hkp⟩:=hR;obtain⟨c,hr,hv⟩:=FR (P:=P) hS hE rfl o hok;unfold Oper.wp;rw[hr];have hRV:RelV (cx P kl n B) E H c (eY P true E H o.op).v a w:=⟨Kk,G,hX,hS,hE,hdf,hn,hkp,hv⟩;exact hK' _ _ (h hB _ _ _ (hRV.put o.dst (zM hd)) hK)
theorem nK{C:Cx}{a:Act}{w:World}(hR:Rel C E H a w){o:Oper}{j:Nat}{want g:Bool}(hg:o.guard=some (j,want))(hb:ib ops.toList E j want=some g):Region.wanted o (yielded ops a.tmps)=g:=by
 obtain⟨K,G,hX,hS,hE,_⟩:=hR;unfold ib at hb;split at hb
 rotate_left
 .cases hb
 rename_i oj hoj
 split at hb
 rotate_left
 .cases hb
 rename_i d hd
 have hoj':ops[j]?=some oj:=by rw[<-Array.getElem?_toList];exact hoj
 have hy:∀(t:Bool),a.tmps.getD d undef=.bool t->yielded ops a.tmps j=some t:=by
  intro t ht
  have:a.tmps[d]?=some (.bool t):=by
   rw[Array.getD_eq_getD_getElem?]at ht
   cases he:a.tmps[d]? with
   |none=>rw[he]at ht;cases ht
   |some v=>rw[he]at ht;simpa using ht
  simp[yielded,hoj',hd,this]
 have hu:a.tmps.getD d undef=undef->yielded ops a.tmps j=none:=by
  intro ht;rw[Array.getD_eq_getD_getElem?]at ht
  cases he:a.tmps[d]? with
  |none=>simp[yielded,hoj',hd,he]
  |some v=>rw[he]at ht;simp at ht;subst ht;simp[yielded,hoj',hd,he,undef]
 have hv:=hE d;split at hb
 .rename_i t ht
  cases hb;rw[ht]at hv;simp only[VR,DR]at hv;simp only[Region.wanted,hg,hy t hv]
  cases t <;> cases want <;> rfl
 .rename_i c t ht
  cases hb;rw[ht]at hv;simp only[VR,DR]at hv;cases c
  .simp only[Region.wanted,hg,hu (hv.2 rfl),Bool.false_and];rfl
  .simp only[Region.wanted,hg,hy t (hv.1 rfl),Bool.true_and]
   cases t <;> cases want <;> rfl
 .cases hb
theorem dl{o:Oper}{l:List Oper}{j:Nat}{want g:Bool}(hg:o.guard=some (j,want))(hb:ib ops.toList E j want=some g)(hd:fz n o.dst)(hok:g=true->(eY P g E H o.op).ok)(h:Rg P kl n B ops l (eB E o.dst (.cnd g (eY P g E H o.op).v)) H K) :
  Rg P kl n B ops (o::l) E H K:=by
 intro hB a w Q hR hK;have hw:=nK hR hg hb
 refine wpList_step fun K' hK'=>?_
 have hR':=hR;obtain⟨Kk,G,hX,hS,hE,hdf,hn,hkp⟩:=hR'
 cases g with
 |true =>
  rw[if_pos hw];obtain⟨c,hr,hv⟩:=FR (P:=P) hS hE rfl o (hok rfl);unfold Oper.wp;rw[hr];have hRV:RelV (cx P kl n B) E H c (.cnd true (eY P true E H o.op).v) a w:=⟨Kk,G,hX,hS,hE,hdf,hn,hkp,by simp only[VR];exact⟨fun _=>hv,fun e=>Bool.noConfusion e⟩⟩;exact hK' _ _ (h hB _ _ _ (hRV.put o.dst (zM hd)) hK)
 |false =>
  rw[if_neg (by rw[hw];simp)];have hRV:RelV (cx P kl n B) E H undef (.cnd false (eY P false E H o.op).v) a w:=⟨Kk,G,hX,hS,hE,hdf,hn,hkp,by simp[VR]⟩;exact hK' _ _ (h hB _ _ _ (hRV.put o.dst (zM hd)) hK)

theorem qt{o:Oper}{ac:Ac}{os:List Oper}(h:(lI P kl n os o ac).ok):ac.ok:=by
 unfold lI at h;split at h
 .split at h
  .exact h.1
  .exact h.1
  .exact h.elim
 .split at h
  .split at h
   .exact h.1
   .exact h.elim
  .exact h.elim
theorem we{o:Oper}{l:List Oper}{ac:Ac}(hok:(lI P kl n ops.toList o ac).ok)(h:Rg P kl n B ops l (lI P kl n ops.toList o ac).E (lI P kl n ops.toList o ac).H K):Rg P kl n B ops (o::l) ac.E ac.H K:=by
 unfold lI at hok h;split at hok
 .rename_i hg
  simp only[hg]at h;split at hok
  .rename_i hc;simp only[hc]at h;exact Rg.pure hg hok.2.1 hok.2.2 h
  .rename_i hc;simp only[hc]at h;exact Rg.eff hg hok.2.1 hok.2.2 h
  .exact hok.elim
 .rename_i j want hg
  simp only[hg]at h;split at hok
  .rename_i hc
   simp only[hc]at h;split at hok
   .rename_i g hb;simp only[hb]at h;exact dl hg hb hok.2.1 hok.2.2 h
   .exact hok.elim
  .exact hok.elim
theorem JN:∀{l:List Oper} {ac:Ac} {os:List Oper},eS P kl n B ops K (eL P kl n os l ac)->ac.ok
 |[],ac,os,h=>h.1
 |o::l,ac,os,h=>by
  unfold eL at h;split at h
  .exact h.1
  .exact qt (JN h)
theorem dd:∀{l:List Oper} {ac:Ac},eS P kl n B ops K (eL P kl n ops.toList l ac)->Rg P kl n B ops l ac.E ac.H K
 |[],ac,h=>Rg.nil h.2
 |o::l,ac,h=>by
  unfold eL at h;split at h
  .exact h.2
  .exact we (JN h) (dd h)
theorem Rg.run{l:List Oper}(h:eS P kl n B ops K (eL P kl n ops.toList l ⟨E,H,True⟩)):Rg P kl n B ops l E H K:=dd h
theorem Wp.region{id:Nat}{l:List Oper}{Q:Qt}(h:∀K:dY->List Ob->Prop,(∀E H,Q .normal E H->K E H)->eS P kl n B l.toArray K (eL P kl n l l ⟨E,H,True⟩)):Wp P kl n B (.region id l.toArray false) Q E H:=by
 intro hB a w hR;refine wp_region_lit ?_;have:=Rg.run (ops:=l.toArray) (l:=l) (h (Q .normal) (fun _ _ h=>h))
 exact this hB a w _ hR fun E' H' a' w' h1 h2=>⟨E',H',h1,h2⟩
end

mutual
def fJ:Va->Va->Prop
 |v,.top=>v=v
 |.nils,.p (.l rows)=>rows=[]
 |.nils,.nils=>True
 |.full r,.p (.l rows)=>r=rows
 |.full r,.full rows=>r=rows
 |.p x,.p y=>x=y
 |.rp x,.rp y=>x=y
 |.ptr o a,.ptr o' a'=>o=o'/\a=a'
 |.cs o a,.cs o' a'=>o=o'/\a=a'
 |.el o s i a,.el o' s' i' a'=>o=o'/\s=s'/\i=i'/\a=a'
 |.buf o,.buf o'=>o=o'
 |.mp o,.mp o'=>o=o'
 |.np o,.np o'=>o=o'
 |.sd o,.sd o'=>o=o'
 |.vw o s a n,.vw o' s' a' n'=>o=o'/\s=s'/\a=a'/\n=n'
 |.bufc o c,.bufc o' c'=>o=o'/\c=c'
 |.bufc o _,.buf o'=>o=o'
 |.nv o i,.nv o' i'=>o=o'/\i=i'
 |.ne o s i j a,.ne o' s' i' j' a'=>o=o'/\s=s'/\i=i'/\j=j'/\a=a'
 |.nil,.np _=>True
 |.ptr o a,.np o'=>o=o'/\a=0
 |.nil,.nil=>True
 |.agg xs,.agg ys=>mf xs ys
 |.tup xs,.tup ys=>mf xs ys
 |.fn f xs,.fn g ys=>f=g/\mf xs ys
 |.raw x,.raw y=>x=y
 |.er x,.er y=>x=y
 |_,_=>False
def mf:List Va->List Va->Prop
 |[],[]=>True
 |x::xs,y::ys=>fJ x y/\mf xs ys
 |_,_=>False
end
section
variable {K:Nat->Prop} {h:Array Obj} {G:List Gh}
mutual
theorem kz:∀{c:Value} {v v':Va},fJ v v'->VR K h G c v->VR K h G c v'
 |c,v,.top,_,_=>by simp[VR]
 |c,.nils,.p (.l rows),hl,hv=>by simp only[fJ]at hl;subst hl;simp only[VR,DR]at *;exact .inl ⟨⟨none,hv⟩,trivial⟩
 |c,.nils,.nils,_,hv=>hv
 |c,.full r,.p (.l rows),hl,hv=>by simp only[fJ]at hl;subst hl;simp only[VR]at *;exact hv.1
 |c,.full r,.full rows,hl,hv=>by simp only[fJ]at hl;subst hl;exact hv
 |c,.p x,.p y,hl,hv=>by
  have:x=y:=by cases y <;> simpa only[fJ]using hl
  subst this;exact hv
 |c,.rp x,.rp y,hl,hv=>by simp only[fJ]at hl;subst hl;exact hv
 |c,.ptr o a,.ptr o' a',hl,hv=>by simp only[fJ]at hl;obtain⟨rfl,rfl⟩:=hl;exact hv
 |c,.cs o a,.cs o' a',hl,hv=>by simp only[fJ]at hl;obtain⟨rfl,rfl⟩:=hl;exact hv
 |c,.el o s i a,.el o' s' i' a',hl,hv=>by simp only[fJ]at hl;obtain⟨rfl,rfl,rfl,rfl⟩:=hl;exact hv
 |c,.buf o,.buf o',hl,hv=>by simp only[fJ]at hl;subst hl;exact hv
 |c,.mp o,.mp o',hl,hv=>by simp only[fJ]at hl;subst hl;exact hv
 |c,.np o,.np o',hl,hv=>by simp only[fJ]at hl;subst hl;exact hv
 |c,.sd o,.sd o',hl,hv=>by simp only[fJ]at hl;subst hl;exact hv
 |c,.vw o s a n,.vw o' s' a' n',hl,hv=>by simp only[fJ]at hl;obtain⟨rfl,rfl,rfl,rfl⟩:=hl;exact hv
 |c,.bufc o a,.bufc o' a',hl,hv=>by simp only[fJ]at hl;obtain⟨rfl,rfl⟩:=hl;exact hv
 |c,.bufc o a,.buf o',hl,hv=>by simp only[fJ]at hl;subst hl;simp only[VR]at *;obtain⟨g,a,n,cap,h1,h2,h3,_⟩:=hv;exact⟨g,h1,h3,a,n,cap,h2⟩
 |c,.nv o i,.nv o' i',hl,hv=>by simp only[fJ]at hl;obtain⟨rfl,rfl⟩:=hl;exact hv
 |c,.ne o s i j a,.ne o' s' i' j' a',hl,hv=>by simp only[fJ]at hl;obtain⟨rfl,rfl,rfl,rfl,rfl⟩:=hl;exact hv
 |c,.nil,.np o',_,hv=>by simp only[VR]at *;exact .inl hv
 |c,.ptr o a,.np o',hl,hv=>by simp only[fJ]at hl;obtain⟨rfl,rfl⟩:=hl;simp only[VR]at *;exact .inr hv
 |c,.nil,.nil,_,hv=>hv
 |c,.agg xs,.agg ys,hl,hv=>by
  simp only[fJ,VR]at *;obtain⟨cs,h1,h2⟩:=hv;exact⟨cs,h1,CF hl h2⟩
 |c,.tup xs,.tup ys,hl,hv=>by
  simp only[fJ,VR]at *;obtain⟨cs,h1,h2⟩:=hv;exact⟨cs,h1,CF hl h2⟩
 |c,.fn f xs,.fn g ys,hl,hv=>by
  simp only[fJ,VR]at *;obtain⟨rfl,hl⟩:=hl;obtain⟨cs,h1,h2⟩:=hv;exact⟨cs,h1,CF hl h2⟩
 |c,.raw x,.raw y,hl,hv=>by simp only[fJ]at hl;subst hl;exact hv
 |c,.er x,.er y,hl,hv=>by simp only[fJ]at hl;subst hl;exact hv
 |c,v,.cnd b x,hl,_=>by cases v <;> simp[fJ]at hl
theorem CF:∀{cs:List Value} {vs vs':List Va},mf vs vs'->VRs K h G cs vs->VRs K h G cs vs'
 |cs,[],[],_,hv=>hv
 |cs,x::xs,y::ys,hl,hv=>by
  simp only[mf,VRs]at *;obtain⟨c,cs',h1,h2,h3⟩:=hv;exact⟨c,cs',h1,kz hl.1 h2,CF hl.2 h3⟩
end
end

def EN(E:dY):dY->Prop
 |[]=>True
 |(k,v)::E'=>fJ (eC E k) v/\EN E E'
def og:Ob->Ob->Prop
 |.cells T vs,.cells T' vs'=>T=T'/\mf vs vs'
 |.buf T sz r,.buf T' sz' r'=>T=T'/\sz=sz'/\r=r'
 |.fx T sz r,.fx T' sz' r'=>T=T'/\sz=sz'/\r=r'
 |.sb T r,.sb T' r'=>T=T'/\r=r'
 |.mp ag es,.mp ag' es'=>ag=ag'/\es=es'
 |.mpb ag es bs cl,.mpb ag' es' bs' cl'=>ag=ag'/\es=es'/\bs=bs'/\cl=cl'
 |.mpb ag es _ _,.mp ag' es'=>ag=ag'/\es=es'
 |.it o cl s,.it o' cl' s'=>o=o'/\cl=cl'/\s=s'
 |.it _ _ _,.gone=>True
 |.nst f T sz k p r st,.nst f' T' sz' k' p' r' st'=>f=f'/\T=T'/\sz=sz'/\k=k'/\p=p'/\r=r'/\st=st'
 |.inn T sz r,.inn T' sz' r'=>T=T'/\sz=sz'/\r=r'
 |.nst f _ _ _ _ _ _,.gone=>f=false
 |.inn _ _ _,.gone=>True
 |.lost,.lost=>True
 |.sb _ _,.gone=>True
 |.buf _ _ _,.gone=>True
 |.gone,.gone=>True
 |_,_=>False
def leH:List Ob->List Ob->Prop
 |_,[]=>True
 |x::H,y::H'=>og x y/\leH H H'
 |[],_::_=>False
def uT(f:Nat->Bool):dY->Bool
 |[]=>true
 |(_,v)::E=>v.all f&&uT f E
def hZ(f:Nat->Bool):List Ob->Bool
 |[]=>true
 |x::H=>x.all f&&hZ f H
def iV(kl:List Bool)(E:dY)(H:List Ob)(E':dY)(H':List Ob):Prop :=
 EN E E'/\leH H H'/\kl.length<=H'.length/\uT (fun o=>decide (o<H'.length)) E'=true/\hZ (fun o=>decide (o<H'.length)) H'=true

theorem mg{x y:Ob}(h:og x y)(hk:x.kept=true):y.kept=true:=by
 cases x <;> cases y <;> simp_all[og,Ob.kept]
theorem pz{E:dY}:∀{E':dY},EN E E'->∀m,eC E' m=.top∨fJ (eC E m) (eC E' m)
 |[],_,m=>.inl rfl
 |(k,v)::E',h,m=>by
  simp only[EN]at h;simp only[eC];split
  .rename_i e;subst e;exact .inr h.1
  .exact pz h.2 m
theorem ni{f:Nat->Bool}:∀{E:dY},uT f E=true->∀m,(eC E m).all f=true
 |[],_,m=>rfl
 |(k,v)::E,h,m=>by
  simp only[uT,Bool.and_eq_true]at h;simp only[eC];split
  .exact h.1
  .exact ni h.2 m
theorem CE:∀{H H':List Ob},leH H H'->∀(o:Nat) (y:Ob),H'[o]?=some y->∃x,H[o]?=some x/\og x y
 |_,[],_,o,y,h=>by simp at h
 |[],y::H',hl,_,_,_=>by simp[leH]at hl
 |x::H,y::H',hl,o,z,h=>by
  simp only[leH]at hl
  cases o with
  |zero=>simp at h;subst h;exact⟨x,rfl,hl.1⟩
  |succ o=>simpa using CE hl.2 o z (by simpa using h)
theorem Hc{f:Nat->Bool}:∀{H:List Ob},hZ f H=true->∀(o:Nat) (y:Ob),H[o]?=some y->y.all f=true
 |[],_,o,y,h=>by simp at h
 |x::H,ha,o,y,h=>by
  simp only[hZ,Bool.and_eq_true]at ha
  cases o with
  |zero=>simp at h;subst h;exact ha.1
  |succ o=>exact Hc ha.2 o y (by simpa using h)
theorem Az{K:Nat->Prop}{h:Array Obj}{G:List Gh}{g:Gh}:∀{x y:Ob},og x y->ObR K h G g x->ObR K h G g y
 |.cells T vs,.cells _ vs',⟨rfl,hl⟩,⟨b,cs,h1,h2,h3⟩=>⟨b,cs,h1,h2,CF hl h3⟩
 |.buf T sz r,.buf T' sz' r',hl,hx=>by simp only[og]at hl;obtain⟨rfl,rfl,rfl⟩:=hl;exact hx
 |.fx T sz r,.fx T' sz' r',hl,hx=>by simp only[og]at hl;obtain⟨rfl,rfl,rfl⟩:=hl;exact hx
 |.mp _ _,.mp _ _,hl,hx=>by simp only[og]at hl;obtain⟨rfl,rfl⟩:=hl;exact hx
 |.mpb _ _ _ _,.mpb _ _ _ _,hl,hx=>by simp only[og]at hl;obtain⟨rfl,rfl,rfl,rfl⟩:=hl;exact hx
 |.mpb _ _ _ _,.mp _ _,hl,hx=>by
  simp only[og]at hl;obtain⟨rfl,rfl⟩:=hl;obtain⟨h0,b,mes,h1,h2,h3,h4,_⟩:=hx;exact⟨h0,b,mes,_,h1,h2,h3,h4⟩
 |.it _ _ _,.it _ _ _,hl,hx=>by simp only[og]at hl;obtain⟨rfl,rfl,rfl⟩:=hl;exact hx
 |.it _ _ _,.gone,_,_=>trivial
 |.sb T r,.sb T' r',hl,hx=>by simp only[og]at hl;obtain⟨rfl,rfl⟩:=hl;exact hx
 |.buf _ _ _,.gone,_,_=>trivial
 |.sb _ _,.gone,_,_=>trivial
 |.gone,.gone,_,hx=>hx
 |.lost,.lost,_,hx=>hx
 |.nst _ _ _ _ _ _ _,.nst _ _ _ _ _ _ _,hl,hx=>by simp only[og]at hl;obtain⟨rfl,rfl,rfl,rfl,rfl,rfl,rfl⟩:=hl;exact hx
 |.inn _ _ _,.inn _ _ _,hl,hx=>by simp only[og]at hl;obtain⟨rfl,rfl,rfl⟩:=hl;exact hx
 |.nst _ _ _ _ _ _ _,.gone,_,_=>trivial
 |.inn _ _ _,.gone,_,_=>trivial

theorem St.cut{K:Nat->Prop}{G:List Gh}{H H':List Ob}{w:World}(hS:St K G H w)(hl:leH H H')(ha:hZ (fun o=>decide (o<H'.length)) H'=true):St K (G.take H'.length) H' w:=by
 have hlen:H'.length<=H.length:=by
  rcases Nat.eq_zero_or_pos H'.length with h0|hp
  .omega
  .obtain⟨x,hx,_⟩:=CE hl (H'.length-1) _ (getElem?_eq_getElem (by omega))
   have:=(List.getElem?_eq_some_iff.1 hx).1;omega
 have sub:∀{o:Nat} {g:Gh},(G.take H'.length)[o]?=some g->G[o]?=some g:=fun {o g} h=>by
  rw[getElem?_take]at h;split at h
  .exact h
  .cases h
 have hMg:Mg (fun o=>decide (o<H'.length)) G (G.take H'.length):=fun o g ho hg=>by rw[getElem?_take,if_pos (by simpa using ho)];exact hg
 refine⟨by rw[length_take,hS.len];omega,hS.kb,fun o g b hg=>hS.gbo o g b (sub hg),fun o o' g g' b hg hg'=>hS.ijo o o' g g' b (sub hg) (sub hg'),fun o g y hg hy=>?_,hS.tb⟩;obtain⟨x,hx,hle⟩:=CE hl o y hy;have hob:=Az hle (hS.ob o g x (sub hg) hx);have hall:=Hc ha o y hy;exact ObR.keep ⟨fun _ h=>h,fun _ _=>rfl⟩ hMg (fun _ _=>rfl) hall hob
theorem kB:∀{kl:List Bool} {o:Nat},en kl o=true->o<kl.length
 |[],o,h=>by simp[en]at h
 |b::kl,0,_=>by simp
 |b::kl,o+1,h=>by simp only[en]at h;simpa using kB h

section
variable {P:Program} {kl:List Bool} {n:Nat} {B:Bs} {Q:Qt} {E:dY} {H:List Ob} {a:Act} {w:World}
theorem Rel.cut{E':dY}{H':List Ob}(hB:B.G0.length=kl.length)(h:Rel (cx P kl n B) E H a w)(hw:iV kl E H E' H'):Rel (cx P kl n B) E' H' a w:=by
 obtain⟨K,G,hX,hS,hE,hd,hn,hk⟩:=h;obtain⟨h1,h2,h3,h4,h5⟩:=hw
 have hMg:Mg (fun o=>decide (o<H'.length)) G (G.take H'.length):=fun o g ho hg=>by rw[getElem?_take,if_pos (by simpa using ho)];exact hg
 refine⟨K,G.take H'.length,hX.cut (by rw[hB];exact h3),hS.cut h2 h5,fun m=>?_,hd,hn,fun o ho=>?_⟩
 .rcases pz h1 m with e|e
  .rw[e];simp[VR]
  .exact VR.keep ⟨fun _ h=>h,fun _ _=>rfl⟩ hMg _ _ (ni h4 m) (kz e (hE m))
 .obtain⟨vs,hvs,hkt⟩:=hk o ho
  have:o<H'.length:=Nat.lt_of_lt_of_le (kB ho) h3;obtain⟨x,hx,hle⟩:=CE h2 o _ (getElem?_eq_getElem this)
  rw[hvs]at hx;cases hx
  exact⟨_,getElem?_eq_getElem this,mg hle hkt⟩
theorem Wp.weak{c:Code}{E':dY}{H':List Ob}(hw:iV kl E H E' H')(h:Wp P kl n B c Q E' H'):Wp P kl n B c Q E H:=fun hB a w hR=>h hB a w (Rel.cut hB hR hw)

theorem Wp.loop{S:Type}(live:S->dY)(objs:S->List Ob)(inv:S->Prop)(mu:S->Nat){c:Code}(s0:S)(h0:iV kl E H (live s0) (objs s0))(hi:inv s0)
  (round:∀s,inv s->Wp P kl n B c (zS (fun E' H'=>∃s',inv s'/\mu s'<mu s/\iV kl E' H' (live s') (objs s')) Q) (live s) (objs s)):Wp P kl n B (.loop c) Q E H:=by
 intro hB a w hR;refine wp_loop_ghost (fun m a w=>∃s,mu s=m/\inv s/\Rel (cx P kl n B) (live s) (objs s) a w) (mu s0) ⟨s0,rfl,hi,Rel.cut hB hR h0⟩ ?_;intro m a w ⟨s,hm,hs,hR⟩;refine wp_mono (round s hs hB a w hR) ?_;intro e a' w' ⟨E',H',hq,hR'⟩
 cases e with
 |normal =>
  obtain⟨s',hs',hlt,hw⟩:=hq;exact⟨mu s',hm ▸ hlt,s',rfl,hs',Rel.cut hB hR' hw⟩
 |_=>exact⟨E',H',hq,hR'⟩
theorem dH{S:Type}(live:S->dY)(objs:S->List Ob)(inv:S->Prop){x y:Code}(hx:Wp P kl n B x (zS (fun E' H'=>∃s,inv s/\iV kl E' H' (live s) (objs s)) Q) E H)
  (hy:∀s,inv s->Wp P kl n B y Q (live s) (objs s)):Wp P kl n B (.seq x y) Q E H:=by
 refine Wp.seq fun K hK=>Wp.mono hx fun e E' H' h=>?_
 cases e with
 |normal =>
  obtain⟨s,hs,hw⟩:=h;exact hK _ _ (Wp.weak hw (hy s hs))
 |_=>exact h

mutual
def oG:Dt->Prop
 |.b _=>True
 |.i k n=>Fits k n
 |.s x=>x.length<=eh
 |.l rows=>rows.length<=eh/\vE rows
 |.a ds=>vz ds
 |.r _=>True
def vz:List Dt->Prop
 |[]=>True
 |d::ds=>oG d/\vz ds
def vE:List (List Dt)->Prop
 |[]=>True
 |r::rs=>vz r/\vE rs
end
mutual
def Va.ok:Va->Prop
 |.p x=>oG x
 |.full rows=>oG (.l rows)
 |.rp row=>vz row
 |.agg vs|.tup vs=>c6 vs
 |_=>True
def c6:List Va->Prop
 |[]=>True
 |v::vs=>v.ok/\c6 vs
end
def Jo(k:Nat):List (List Dt)->Prop
 |[]=>True
 |r::rows=>vz (r.set k (.b false))/\Jo k rows
def Jp:List (List (List Dt))->Prop
 |[]=>True
 |rows::ins=>(rows.length<=eh/\vE rows)/\Jp ins
def Ob.ok:Ob->Prop
 |.cells _ vs=>c6 vs
 |.buf _ _ rows=>rows.length<=eh/\vE rows
 |.fx _ _ rows=>rows.length<=eh/\vE rows
 |.mp _ es=>es.length<=eh
 |.mpb _ es _ _=>es.length<=eh
 |.it _ _ _=>True
 |.sb _ bs=>bs.length<=eh
 |.nst _ _ _ k _ rows _=>rows.length<=eh/\Jo k rows
 |.inn _ _ ins=>Jp ins
 |.gone=>True
 |.lost=>True
end
section
variable {K:Nat->Prop} {h:Array Obj} {G:List Gh}
mutual
theorem DR.ok:∀{c:Value} {d:Dt},DR K h c d->oG d
 |_,.b _,_=>trivial
 |_,.i _ _,H=>by simp only[DR]at H;exact H.2
 |_,.s _,H=>by simp only[DR]at H;exact H.2
 |_,.l rows,H=>by
  simp only[DR]at H;simp only[oG]
  rcases H with⟨_,rfl⟩|⟨b,off,cap,cs,T,fr,sz,vs,_,_,_,_,hl,_,hd⟩
  .exact⟨by simp,by simp only[vE]⟩
  .exact⟨hl,DRss.ok hd⟩
 |_,.a ds,H=>by simp[DR]at H
 |_,.r _,_=>trivial
theorem DRs.ok:∀{cs:List Value} {ds:List Dt},DRs K h cs ds->vz ds
 |_,[],_=>trivial
 |_,d::ds,H=>by
  simp only[DRs]at H;obtain⟨v,vs',_,h2,h3⟩:=H;exact⟨DR.ok h2,DRs.ok h3⟩
theorem DRss.ok{sz:Nat}:∀{cs:List Value} {rs:List (List Dt)},DRss K h sz cs rs->vE rs
 |_,[],_=>trivial
 |_,r::rs,H=>by
  simp only[DRss]at H;obtain⟨a,b,_,_,h3,h4⟩:=H;exact⟨DRs.ok h3,DRss.ok h4⟩
end
mutual
theorem VR.ok:∀{c:Value} {v:Va},VR K h G c v->v.ok
 |_,.p x,H=>by simp only[VR]at H;exact DR.ok H
 |_,.full rows,H=>by simp only[VR]at H;exact DR.ok H.1
 |_,.rp row,H=>by simp only[VR]at H;obtain⟨_,_,_,_,_,_,_,_,_,_,hd⟩:=H;exact DRs.ok hd
 |_,.agg vs,H=>by simp only[VR]at H;obtain⟨_,_,hv⟩:=H;exact VRs.ok hv
 |_,.tup vs,H=>by simp only[VR]at H;obtain⟨_,_,hv⟩:=H;exact VRs.ok hv
 |_,.nils,_|_,.ptr _ _,_|_,.cs _ _,_|_,.el _ _ _ _,_|_,.buf _,_|_,.mp _,_|_,.np _,_|_,.sd _,_|_,.vw _ _ _ _,_|_,.bufc _ _,_|_,.nv _ _,_|_,.ne _ _ _ _ _,_|_,.fn _ _,_|_,.nil,_|_,.cnd _ _,_|_,.raw _,_|_,.er _,_|_,.top,_=>trivial
theorem VRs.ok:∀{cs:List Value} {vs:List Va},VRs K h G cs vs->c6 vs
 |_,[],_=>trivial
 |_,v::vs,H=>by
  simp only[VRs]at H;obtain⟨c,cs',_,h2,h3⟩:=H;exact⟨VR.ok h2,VRs.ok h3⟩
end
end
theorem Lu:∀{r:List Dt} {k:Nat} {x y:Dt},vz (r.set k x)->oG y->vz (r.set k y)
 |[],_,_,_,_,_=>trivial
 |_::_,0,_,_,h,hy=>⟨hy,h.2⟩
 |_::_,_+1,_,_,h,hy=>⟨h.1,Lu h.2 hy⟩
theorem pi{k:Nat}:∀{rows:List (List Dt)} {vs:List Value},vs.length=rows.length->vE (fy k rows vs)->Jo k rows
 |[],_,_,_=>trivial
 |_::_,[],hl,_=>by simp at hl
 |_::_,_::_,hl,h=>⟨Lu h.1 trivial,pi (by simpa using hl) h.2⟩
theorem pj:∀{ins:List (List (List Dt))},(∀(j:Nat) (rows:List (List Dt)),ins[j]?=some rows->rows.length<=eh/\vE rows)->Jp ins
 |[],_=>trivial
 |_::_,h=>⟨h 0 _ rfl,pj fun j rows hj=>h (j+1) rows (by simpa using hj)⟩
theorem ObR.ok{K:Nat->Prop}{h:Array Obj}{G:List Gh}{g:Gh}:∀{x:Ob},ObR K h G g x->x.ok
 |.cells _ _,⟨_,_,_,_,hv⟩=>VRs.ok hv
 |.buf _ _ _,⟨hl,_,hd,_⟩=>⟨hl,DRss.ok hd⟩
 |.fx _ _ _,⟨hl,_,hd,_⟩=>⟨hl,DRss.ok hd⟩
 |.mp _ _,h=>h.1
 |.mpb _ _ _ _,h=>h.1
 |.it _ _ _,_=>trivial
 |.sb _ _,⟨hl,_⟩=>hl
 |.gone,_=>trivial
 |.lost,_=>trivial
 |.nst _ _ _ _ _ _ _,⟨h0,_,_,_,_,hl,_,_,_,hd,_⟩=>⟨h0,pi hl (DRss.ok hd)⟩
 |.inn _ _ _,⟨_,h1,h2,_⟩=>pj fun j rows hj=>by
  have hl:=(List.getElem?_eq_some_iff.1 hj).1;obtain⟨h3,_,hd,_⟩:=h2 j _ rows (getElem?_eq_getElem (by omega)) hj;exact⟨h3,DRss.ok hd⟩
section
variable {P:Program} {kl:List Bool} {n:Nat} {B:Bs} {Q:Qt} {E:dY} {H:List Ob}
theorem dC{c:Code}(k:Nat)(h:(eC E k).ok->Wp P kl n B c Q E H):Wp P kl n B c Q E H:=by
 intro hB a w hR;have hR':=hR;obtain⟨K,G,_,_,hE,_⟩:=hR';exact h (VR.ok (hE k)) hB a w hR
theorem dx{c:Code}(o:Nat)(h:(ed H o).ok->Wp P kl n B c Q E H):Wp P kl n B c Q E H:=by
 intro hB a w hR;have hR':=hR;obtain⟨K,G,_,hS,_,_⟩:=hR';refine h ?_ hB a w hR
 rcases Classical.em (ed H o=.gone)with e|e
 .rw[e];trivial
 .obtain⟨g,_,ho⟩:=hS.ghost (zn rfl e)
  exact ho.ok
end
variable [Tabs]

def BK (P:Program) (f:FuncId):Prop:=∃fn,P.funcs[f]?=some fn/\(fn.name == "runtime.NumGoroutine")=false/\fn.body.isNone=false
def kinds:List Ob->List Bool
 |[]=>[]
 |x::X=>x.kept::kinds X
theorem Kq:∀X:List Ob,(kinds X).length=X.length
 |[]=>rfl
 |x::X=>by simp[kinds,Kq X]
theorem jv:∀{X:List Ob} {o:Nat},en (kinds X) o=true->∃x,X[o]?=some x/\x.kept=true
 |[],o,h=>by simp[kinds,en]at h
 |x::X,0,h=>⟨x,rfl,by simpa [kinds,en]using h⟩
 |x::X,o+1,h=>by simp only[kinds,en]at h;simpa using jv h
theorem F3(X:List Ob):fC (en (kinds X)) X:=fun _ h=>jv h

def Does(P:Program)(f:FuncId)(args:List Va)(X:List Ob)(Post:Va->List Ob->Prop):Prop :=
 BK P f/\∀K G w vals,St K G X w->VRs K w.heap G vals args ->
  Calls P f vals.toArray w fun e w'=>∃c r X' K' G',e=.returned c/\Post r X'/\Ext (en (kinds X)) K G w K' G' w'/\St K' G' X' w'/\VR K' w'.heap G' c r/\fC (en (kinds X)) X'
theorem Does.mono{P:Program}{f:FuncId}{args:List Va}{X:List Ob}{Post Post':Va->List Ob->Prop}(h:Does P f args X Post)(hp:∀r X',Post r X'->Post' r X'):Does P f args X Post' :=
 ⟨h.1,fun K G w vals h1 h2=>(h.2 K G w vals h1 h2).mono fun _ _ ⟨c,r,X',K',G',e1,e2,e3⟩=>⟨c,r,X',K',G',e1,hp _ _ e2,e3⟩⟩
theorem Does.facts{P:Program}{f:FuncId}{args:List Va}{X:List Ob}{Post:Va->List Ob->Prop}(hc:BK P f)(h:c6 args->Does P f args X Post):Does P f args X Post :=
 ⟨hc,fun K G w vals h1 h2=>(h (VRs.ok h2)).2 K G w vals h1 h2⟩

def n9(k:Nat):List (List Dt)->List (List (List Dt))->List (List Dt)
 |r::rows,i::ins=>r.set k (.l i)::n9 k rows ins
 |_,_=>[]
def gR(m:Nat)(H:List Ob):Ob->Option (List (List Dt))
 |.buf _ _ rows=>some rows
 |.nst _ _ _ k p rows none=>if p<m then none else match ed H p with
  |.inn _ _ ins=>if rows.length=ins.length then some (n9 k rows ins)else none
  |_=>none
 |_=>none
mutual
def gh(m:Nat)(H:List Ob):Va->Va
 |.buf o=>if o<m then .buf o else match gR m H (ed H o)with
  |some rows=>.p (.l rows)
  |none=>.top
 |.nv o i=>if o<m then .nv o i else match ed H o with
  |.inn _ _ ins=>.p (.l (ins.getD i []))
  |_=>.top
 |.agg vs=>.agg (vB m H vs)
 |.tup vs=>.tup (vB m H vs)
 |.fn f vs=>.fn f (vB m H vs)
 |v=>v
def vB(m:Nat)(H:List Ob):List Va->List Va
 |[]=>[]
 |v::vs=>gh m H v::vB m H vs
end
def Ao(m:Nat)(H:List Ob):Ob->Ob
 |.cells T vs=>.cells T (vB m H vs)
 |x=>x
def fR(m:Nat)(H:List Ob):List Ob->List Ob
 |[]=>[]
 |x::X=>Ao m H x::fR m H X
def n7(P:Program)(E:dY)(H:List Ob):ResultVar->Pv
 |.tmp t=>⟨eC E t,True⟩
 |.cell a T=>match ej P T with
  |some ti=>jt ti H (eC E a)
  |none=>ew
def iu(P:Program)(E:dY)(H:List Ob):List ResultVar->List Va×Prop
 |[]=>([],True)
 |r::rs=>((n7 P E H r).v::(iu P E H rs).1,(n7 P E H r).ok/\(iu P E H rs).2)
def fQ(P:Program)(E:dY)(H:List Ob)(rs:List ResultVar):Pv:=match rs with
 |[r]=>n7 P E H r
 |rs=>⟨.tup (iu P E H rs).1,(iu P E H rs).2⟩
def iP(P:Program)(rs:List ResultVar)(m:Nat)(kl:List Bool)(Post:Va->List Ob->Prop)(E:dY)(H:List Ob):Prop :=
 (fQ P E H rs).ok/\kl.length<=m/\m<=H.length/\(gh m H (fQ P E H rs).v).all (fun o=>decide (o<m))=true/\hZ (fun o=>decide (o<m)) (fR m H (H.take m))=true /\
  ∃r X,fJ (gh m H (fQ P E H rs).v) r/\leH (fR m H (H.take m)) X/\X.length=m/\r.all (fun o=>decide (o<m))=true/\hZ (fun o=>decide (o<m)) X=true/\Post r X
def lU(P:Program)(rs:List ResultVar)(m:Nat)(kl:List Bool)(Post:Va->List Ob->Prop):Qt
 |.normal,E,H=>iP P rs m kl Post E H
 |.ret,E,H=>iP P rs m kl Post E H
 |_,_,_=>False

section
variable {K:Nat->Prop} {G:List Gh} {H:List Ob} {w:World} {P:Program}
def BA(K:Nat->Prop)(G:List Gh)(_:List Ob)(m:Nat)(b:Nat):Prop:=K b∨∃o g,m<=o/\G[o]?=some g/\own g b

theorem CP{K K':Nat->Prop}{h:Array Obj}{bo:Option Nat}{sv:Value}{T:TypeId}{sz:Nat}{rows:List (List Dt)}(hob:bufR K h bo sv T sz rows)(hK:∀b,K b->K' b)(hb:∀b,bo=some b->K' b):DR K' h sv (.l rows):=by
 obtain⟨hlim,xs,hxs,hh⟩:=hob;simp only[DR]
 rcases hh with⟨h1,h2,_⟩|⟨b,cap,cur,fr,h1,h2,h3,h4,h5,h6,h7,h8⟩
 .exact .inl ⟨h1,h2⟩
 .refine .inr ⟨b,0,cap,cur,T,fr,sz,xs,h1,hb b h2,h3,h5,hlim,fun j v hj=>?_,DRss.mono ⟨hK,fun _ _=>rfl⟩ _ _ _ hxs⟩
  rw[<-h8,getElem?_take]at hj;split at hj
  .rw[Nat.zero_add,<-Array.getElem?_toList];exact hj
  .cases hj
theorem pX(hS:St K G H w){o:Nat}{T:TypeId}{sz:Nat}{rows:List (List Dt)}(ho:H[o]?=some (.buf T sz rows)){g:Gh}(hg:G[o]?=some g){K':Nat->Prop}(hK:∀b,K b->K' b)(hb:∀b,g.blk=some b->K' b):DR K' w.heap g.sv (.l rows):=CP (hS.ob o g _ hg ho) hK hb
theorem nu{K K':Nat->Prop}{h:Array Obj}(hK:∀b,K b->K' b){v:Value}{d:Dt}(hd:DR K' h v d):∀{a:List Value} {r:List Dt} {k:Nat},DRs K h a (r.set k (.r v))->DRs K' h a (r.set k d)
 |_,[],_,H=>by simpa [DRs]using H
 |a,x::r,0,H=>by
  simp only[set_cons_zero,DRs,DR]at H|-;obtain⟨u,a',rfl,⟨rfl,_⟩,h2⟩:=H;exact⟨u,a',rfl,hd,DRs.mono ⟨hK,fun _ _=>rfl⟩ _ _ h2⟩
 |a,x::r,k+1,H=>by
  simp only[set_cons_succ,DRs]at H|-;obtain⟨u,a',rfl,h1,h2⟩:=H;exact⟨u,a',rfl,DR.mono ⟨hK,fun _ _=>rfl⟩ _ _ h1,nu hK hd h2⟩
theorem kv{K K':Nat->Prop}{h:Array Obj}(hK:∀b,K b->K' b){sz k:Nat}:∀{xs:List Value} {rows:List (List Dt)} {vs:List Value} {ins:List (List (List Dt))},DRss K h sz xs (fy k rows vs)->vs.length=rows.length->rows.length=ins.length ->
  (∀(j:Nat) (v:Value) (i:List (List Dt)),vs[j]?=some v->ins[j]?=some i->DR K' h v (.l i))->DRss K' h sz xs (n9 k rows ins)
 |xs,[],vs,ins,H,hv,hl,_=>by cases vs <;> simp_all[fy,n9,DRss]
 |xs,r::rows,[],ins,H,hv,hl,_=>by simp at hv
 |xs,r::rows,v::vs,[],H,hv,hl,_=>by simp at hl
 |xs,r::rows,v::vs,i::ins,H,hv,hl,hi=>by
  simp only[fy,DRss,n9]at H|-;obtain⟨a,b,rfl,h2,h3,h4⟩:=H;exact⟨a,b,rfl,by simpa using h2,nu hK (hi 0 v i rfl rfl) h3,kv hK h4 (by simpa using hv) (by simpa using hl) fun j v i h1 h2=>hi (j+1) v i (by simpa using h1) (by simpa using h2)⟩
theorem wC(hS:St K G H w){f:Bool}{o p:Nat}{T Te:TypeId}{sz k sze:Nat}{rows:List (List Dt)}{ins:List (List (List Dt))}(ho:H[o]?=some (.nst f T sz k p rows none))(hp:H[p]?=some (.inn Te sze ins))(hl:rows.length=ins.length){g:Gh}(hg:G[o]?=some g){K':Nat->Prop}(hK:∀b,K b->K' b)
  (hb:∀b,own g b->K' b) (hb':∀g' b,G[p]?=some g'->own g' b->K' b):DR K' w.heap g.sv (.l (n9 k rows ins)):=by
 obtain⟨h0,h1,gp,vs,h2,h3,h4,h5⟩:=hS.ob o g _ hg ho;obtain⟨e1,e2,e3,_⟩:=hS.ob p gp _ h2 hp
 have hvs:∀j:Nat,vs[j]?=gp.inn[j]?:=fun j=>h4.2.1 j (by simp)
 have hm:(n9 k rows ins).length=(fy k rows vs).length/\(n9 k rows ins).length=rows.length:=by
  have:∀{rows:List (List Dt)} {vs:List Value} {ins:List (List (List Dt))},vs.length=rows.length->rows.length=ins.length->(n9 k rows ins).length=(fy k rows vs).length/\(n9 k rows ins).length=rows.length:=by
   intro rows
   induction rows with
   |nil=>intro vs ins _ _;cases vs <;> simp[n9,fy]
   |cons r rows ih =>
    intro vs ins a b
    cases vs with
    |nil=>simp at a
    |cons v vs=>cases ins with
     |nil=>simp at b
     |cons i ins =>
      have:=ih (vs:=vs) (ins:=ins) (by simpa using a) (by simpa using b);simp only[n9,fy,length_cons];omega
  exact this h3 hl
 obtain⟨hlim,xs,hxs,hh⟩:=h5
 have hd:=kv (K':=K') hK hxs h3 hl fun j v i hv hi=>CP (e3 j v i (by rw[<-hvs j];exact hv) hi) hK fun b hb=>hb' gp b h2 (.inr ⟨v,mem_of_getElem? (by rw[<-hvs j];exact hv),hb⟩)
 simp only[DR]
 rcases hh with⟨f1,f2,_⟩|⟨b,cap,cur,fr,f1,f2,f3,f4,f5,f6,f7,f8⟩
 .refine .inl ⟨f1,eq_nil_of_length_eq_zero ?_⟩
  rw[f2]at hm;simpa using hm.1
 .refine .inr ⟨b,0,cap,cur,T,fr,sz,xs,by rw[hm.1];exact f1,hb b (.inl f2),f3,by omega,by omega,fun j v hj=>?_,hd⟩
  rw[<-f8,getElem?_take]at hj;split at hj
  .rw[Nat.zero_add,<-Array.getElem?_toList];exact hj
  .cases hj
def Cm:Ob->Nat
 |.buf _ sz _=>sz
 |.nst _ _ sz _ _ _ _=>sz
 |_=>0
theorem sS(hS:St K G H w){m o:Nat}{rows:List (List Dt)}(h:gR m H (ed H o)=some rows){g:Gh}{b:Nat}(hg:G[o]?=some g)(hgb:g.blk=some b){K':Nat->Prop}(hK:∀b,K b->K' b)(hm:∀o' g' b,m<=o'->G[o']?=some g'->own g' b->K' b) :
  ∃cur T fr xs,w.heap[b]?=some (.cells cur T fr)/\DRss K' w.heap (Cm (ed H o)) xs rows/\cur.toList.take (rows.length*Cm (ed H o))=xs:=by
 unfold gR at h;split at h
 .rename_i hx
  cases h;obtain⟨hlim,xs,hxs,hh⟩:=hS.ob o g _ hg (zn hx (by simp))
  rcases hh with⟨_,_,h3⟩|⟨b',cap,cur,fr,h1,h2,h3,h4,h5,h6,h7,h8⟩
  .rw[hgb]at h3;cases h3
  .rw[hgb]at h2;cases h2
   rw[hx];exact⟨cur,_,fr,xs,h3,DRss.mono ⟨hK,fun _ _=>rfl⟩ _ _ _ hxs,h8⟩
 .rename_i hx
  split at h
  .cases h
  rename_i hpm
  split at h
  .rename_i hi
   split at h
   .rename_i hl
    cases h;obtain⟨h0,h1,gp,vs,h2,h3,h4,h5⟩:=hS.ob o g _ hg (zn hx (by simp));obtain⟨e1,e2,e3,_⟩:=hS.ob _ gp _ h2 (zn hi (by simp))
    have hvs:∀j:Nat,vs[j]?=gp.inn[j]?:=fun j=>h4.2.1 j (by simp)
    obtain⟨hlim,xs,hxs,hh⟩:=h5
    have hd:=kv (K':=K') hK hxs h3 hl fun j v i hv hi=>CP (e3 j v i (by rw[<-hvs j];exact hv) hi) hK fun b hb=>hm _ gp b (by omega) h2 (.inr ⟨v,mem_of_getElem? (by rw[<-hvs j];exact hv),hb⟩)
    rcases hh with⟨_,_,f3⟩|⟨b',cap,cur,fr,f1,f2,f3,f4,f5,f6,f7,f8⟩
    .rw[hgb]at f3;cases f3
    .rw[hgb]at f2;cases f2
     rw[hx];refine⟨cur,_,fr,xs,f3,hd,?_⟩;have:=hxs.length;have h9:=hd.length;simp only[Cm];rw[<-f8,length_take]at this h9;rw[show(n9 _ _ _).length*_=_ from by rw[<-h9,<-this]];rw[<-f8]
     congr 1
     omega
   .cases h
  .cases h
 .cases h
theorem jl(hS:St K G H w){m o:Nat}{rows:List (List Dt)}(h:gR m H (ed H o)=some rows){g:Gh}(hg:G[o]?=some g){K':Nat->Prop}(hK:∀b,K b->K' b)(hm:∀o' g' b,m<=o'->G[o']?=some g'->own g' b->K' b)(ho:m<=o):DR K' w.heap g.sv (.l rows):=by
 unfold gR at h;split at h
 .rename_i hx
  cases h
  exact pX hS (zn hx (by simp)) hg hK fun b hb=>hm o g b ho hg (.inl hb)
 .rename_i hx
  split at h
  .cases h
  rename_i hpm
  split at h
  .rename_i hi
   split at h
   .rename_i hl
    cases h
    exact wC hS (zn hx (by simp)) (zn hi (by simp)) hl hg hK (fun b hb=>hm o g b ho hg hb) fun g' b hg' hb=>hm _ g' b (by omega) hg' hb
   .cases h
  .cases h
 .cases h
mutual
theorem ph(hS:St K G H w)(m:Nat):∀{c:Value} {v:Va},VR K w.heap G c v->VR (BA K G H m) w.heap G c (gh m H v)
 |c,.p x,h=>VR.grow (K:=K) ⟨fun _ h=>.inl h,fun _ _=>rfl⟩ (fun _ _ h=>h) c (.p x) h
 |c,.nils,h=>VR.grow (K:=K) ⟨fun _ h=>.inl h,fun _ _=>rfl⟩ (fun _ _ h=>h) c .nils h
 |c,.full rows,h=>VR.grow (K:=K) ⟨fun _ h=>.inl h,fun _ _=>rfl⟩ (fun _ _ h=>h) c (.full rows) h
 |c,.rp row,h=>VR.grow (K:=K) ⟨fun _ h=>.inl h,fun _ _=>rfl⟩ (fun _ _ h=>h) c (.rp row) h
 |c,.ptr o a,h=>VR.grow (K:=K) ⟨fun _ h=>.inl h,fun _ _=>rfl⟩ (fun _ _ h=>h) c (.ptr o a) h
 |c,.cs o a,h=>VR.grow (K:=K) ⟨fun _ h=>.inl h,fun _ _=>rfl⟩ (fun _ _ h=>h) c (.cs o a) h
 |c,.el o s i a,h=>VR.grow (K:=K) ⟨fun _ h=>.inl h,fun _ _=>rfl⟩ (fun _ _ h=>h) c (.el o s i a) h
 |c,.np o,h=>VR.grow (K:=K) ⟨fun _ h=>.inl h,fun _ _=>rfl⟩ (fun _ _ h=>h) c (.np o) h
 |c,.sd o,h=>VR.grow (K:=K) ⟨fun _ h=>.inl h,fun _ _=>rfl⟩ (fun _ _ h=>h) c (.sd o) h
 |c,.vw o s a n,h=>VR.grow (K:=K) ⟨fun _ h=>.inl h,fun _ _=>rfl⟩ (fun _ _ h=>h) c (.vw o s a n) h
 |c,.bufc o s,h=>VR.grow (K:=K) ⟨fun _ h=>.inl h,fun _ _=>rfl⟩ (fun _ _ h=>h) c (.bufc o s) h
 |c,.ne o s i j a,h=>VR.grow (K:=K) ⟨fun _ h=>.inl h,fun _ _=>rfl⟩ (fun _ _ h=>h) c (.ne o s i j a) h
 |c,.mp o,h=>VR.grow (K:=K) ⟨fun _ h=>.inl h,fun _ _=>rfl⟩ (fun _ _ h=>h) c (.mp o) h
 |c,.nil,h=>VR.grow (K:=K) ⟨fun _ h=>.inl h,fun _ _=>rfl⟩ (fun _ _ h=>h) c .nil h
 |c,.cnd t v,h=>VR.grow (K:=K) ⟨fun _ h=>.inl h,fun _ _=>rfl⟩ (fun _ _ h=>h) c (.cnd t v) h
 |c,.raw v,h=>VR.grow (K:=K) ⟨fun _ h=>.inl h,fun _ _=>rfl⟩ (fun _ _ h=>h) c (.raw v) h
 |c,.er v,h=>VR.grow (K:=K) ⟨fun _ h=>.inl h,fun _ _=>rfl⟩ (fun _ _ h=>h) c (.er v) h
 |c,.top,h=>VR.grow (K:=K) ⟨fun _ h=>.inl h,fun _ _=>rfl⟩ (fun _ _ h=>h) c .top h
 |c,.buf o,h=>by
  simp only[gh];split
  .exact VR.grow (K:=K) ⟨fun _ h=>.inl h,fun _ _=>rfl⟩ (fun _ _ h=>h) c (.buf o) h
  .rename_i hm
   split
   .rename_i rows hob
    simp only[VR]at h;obtain⟨g,hg,rfl,_⟩:=h;simp only[VR];exact jl hS hob hg (fun _ h=>.inl h) (fun o' g' b h1 h2 h3=>.inr ⟨o',g',h1,h2,h3⟩) (by omega)
   .simp[VR]
 |c,.nv o i,h=>by
  simp only[gh];split
  .exact VR.grow (K:=K) ⟨fun _ h=>.inl h,fun _ _=>rfl⟩ (fun _ _ h=>h) c (.nv o i) h
  .rename_i hm
   split
   .rename_i T sz ins hob
    have ho:=zn hob (by simp);simp only[VR]at h;obtain⟨g,a,n,cap,hg,hi,rfl⟩:=h;obtain⟨e1,e2,e3,_⟩:=hS.ob o g _ hg ho;have hil:=(List.getElem?_eq_some_iff.1 hi).1
    have hin:ins[i]?=some (ins.getD i []):=by rw[getElem?_eq_getElem (by omega),getD_eq_getElem?_getD,getElem?_eq_getElem (by omega)];rfl
    simp only[VR]
    exact CP (e3 i _ _ hi hin) (fun _ h=>.inl h) fun b hb=>.inr ⟨o,g,by omega,hg,.inr ⟨_,mem_of_getElem? hi,hb⟩⟩
   .simp[VR]
 |c,.agg vs,h=>by simp only[gh,VR]at *;obtain⟨cs,h1,h2⟩:=h;exact⟨cs,h1,CW hS m h2⟩
 |c,.tup vs,h=>by simp only[gh,VR]at *;obtain⟨cs,h1,h2⟩:=h;exact⟨cs,h1,CW hS m h2⟩
 |c,.fn f vs,h=>by simp only[gh,VR]at *;obtain⟨cs,h1,h2⟩:=h;exact⟨cs,h1,CW hS m h2⟩
theorem CW(hS:St K G H w)(m:Nat):∀{cs:List Value} {vs:List Va},VRs K w.heap G cs vs->VRs (BA K G H m) w.heap G cs (vB m H vs)
 |cs,[],h=>by simpa only[vB,VRs]using h
 |cs,v::vs,h=>by
  simp only[vB,VRs]at *;obtain⟨c,cs',h1,h2,h3⟩:=h;exact⟨c,cs',h1,ph hS m h2,CW hS m h3⟩
end
theorem Hu(m:Nat)(H':List Ob):∀{X:List Ob} {o:Nat} {y:Ob},(fR m H' X)[o]?=some y->∃x,X[o]?=some x/\y=Ao m H' x
 |[],o,y,h=>by simp[fR]at h
 |x::X,0,y,h=>by simp[fR]at h;exact⟨x,rfl,h.symm⟩
 |x::X,o+1,y,h=>by simp only[fR,getElem?_cons_succ]at h|-;exact Hu m H' h
theorem Km(m:Nat)(H':List Ob):∀X:List Ob,(fR m H' X).length=X.length
 |[]=>rfl
 |x::X=>by simp[fR,Km m H' X]
theorem St.out(hS:St K G H w){m:Nat}(ha:hZ (fun o=>decide (o<m)) (fR m H (H.take m))=true):St (BA K G H m) (G.take m) (fR m H (H.take m)) w:=by
 have sub:∀{o:Nat} {g:Gh},(G.take m)[o]?=some g->o<m/\G[o]?=some g:=fun {o g} h=>by
  rw[getElem?_take]at h;split at h
  .exact⟨by assumption,h⟩
  .cases h
 have hMg:Mg (fun o=>decide (o<m)) G (G.take m):=fun o g ho hg=>by rw[getElem?_take,if_pos (by simpa using ho)];exact hg
 refine⟨by rw[Km,length_take,length_take,hS.len],fun b hb=>?_,fun o g b hg hb=>?_,fun o o' g g' b hg hg'=>hS.ijo o o' g g' b (sub hg).2 (sub hg').2,fun o g y hg hy=>?_,hS.tb.mono ⟨fun _ h=>.inl h,fun _ _=>rfl⟩⟩
 .rcases hb with hb|⟨o,g,_,hg,hb⟩
  .exact hS.kb b hb
  .exact(hS.gbo o g b hg hb).1
 .refine⟨(hS.gbo o g b (sub hg).2 hb).1,fun hk=>?_⟩
  rcases hk with hk|⟨o',g',hm',hg',hb'⟩
  .exact(hS.gbo o g b (sub hg).2 hb).2 hk
  .have:=hS.ijo o o' g g' b (sub hg).2 hg' hb hb'
   have:=(sub hg).1;omega
 .obtain⟨x,hx,rfl⟩:=Hu m H hy
  have hx':H[o]?=some x:=by
   rw[getElem?_take]at hx;split at hx
   .exact hx
   .cases hx
  have hob:=hS.ob o g x (sub hg).2 hx';have hall:=Hc ha o _ hy
  cases x with
  |cells T vs =>
   obtain⟨b,cs,h1,h2,h3⟩:=hob;exact⟨b,cs,h1,h2,VRs.keep ⟨fun _ h=>h,fun _ _=>rfl⟩ hMg _ _ hall (CW hS m h3)⟩
  |buf T sz rows=>exact ObR.keep (K:=K) ⟨fun _ h=>.inl h,fun _ _=>rfl⟩ hMg (fun _ _=>rfl) hall hob
  |fx T sz rows=>exact ObR.keep (K:=K) ⟨fun _ h=>.inl h,fun _ _=>rfl⟩ hMg (fun _ _=>rfl) hall hob
  |sb T bs=>exact ObR.keep (K:=K) ⟨fun _ h=>.inl h,fun _ _=>rfl⟩ hMg (fun _ _=>rfl) hall hob
  |mp ag es=>exact ObR.keep (K:=K) ⟨fun _ h=>.inl h,fun _ _=>rfl⟩ hMg (fun _ _=>rfl) hall hob
  |mpb ag es bs cl=>exact ObR.keep (K:=K) ⟨fun _ h=>.inl h,fun _ _=>rfl⟩ hMg (fun _ _=>rfl) hall hob
  |it o cl seen=>exact ObR.keep (K:=K) ⟨fun _ h=>.inl h,fun _ _=>rfl⟩ hMg (fun _ _=>rfl) hall hob
  |nst f T sz k p rows st=>exact ObR.keep (K:=K) ⟨fun _ h=>.inl h,fun _ _=>rfl⟩ hMg (fun _ _=>rfl) hall hob
  |inn T sz ins=>exact ObR.keep (K:=K) ⟨fun _ h=>.inl h,fun _ _=>rfl⟩ hMg (fun _ _=>rfl) hall hob
  |gone=>exact hob
  |lost=>exact hob

def sV(tmps:Array Value):ResultVar->Sem Value
 |.tmp t=>pure (tmps.getD t undef)
 |.cell a t=>do loadVar t (<-asAddr (tmps.getD a undef))
theorem o7{E:dY}{a:Act}(hS:St K G H w)(hE:ig K w.heap G a E){r:ResultVar}(hok:(n7 P E H r).ok) :
  ∃c,(sV a.tmps r).run P w=.ok c w/\VR K w.heap G c (n7 P E H r).v:=by
 cases r with
 |tmp t=>exact⟨_,rfl,hE t⟩
 |cell x T =>
  simp only[n7]at hok|-;split at hok
  rotate_left
  .exact hok.elim
  rename_i ti ht
  obtain⟨c,hr,hv⟩:=l9 (P:=P) ht hS (hE x) hok;refine⟨c,?_,hv⟩;simp only[sV];generalize a.tmps.getD x undef=d at hr|-
  cases d <;> simp only[Instr.loadAt,Instr.sureAddr,asAddr]at hr|-
  case pointer p =>
   cases p with
   |none=>simp at hr
   |some p=>simpa using hr
  all_goals simp at hr
theorem oZ{E:dY}{a:Act}(hS:St K G H w)(hE:ig K w.heap G a E):∀{rs:List ResultVar},(iu P E H rs).2->∃cs,(rs.mapM (sV a.tmps)).run P w=.ok cs w/\VRs K w.heap G cs (iu P E H rs).1
 |[],_=>⟨[],by simp,by simp[iu,VRs]⟩
 |r::rs,hok=>by
  simp only[iu]at hok|-;obtain⟨c,h1,h2⟩:=o7 (P:=P) hS hE hok.1;obtain⟨cs,h3,h4⟩:=oZ hS hE hok.2;refine⟨c::cs,?_,by simp only[VRs];exact⟨c,cs,rfl,h2,h4⟩⟩;rw[mapM_cons];simp only[Sem.run_bind,h1,h3,Result.andThen_ok,Sem.run_pure]
theorem wo{E:dY}{a:Act}(hS:St K G H w)(hE:ig K w.heap G a E){fn:Func}(hok:(fQ P E H fn.results.toList).ok):∃c,(results fn a.tmps).run P w=.ok c w/\VR K w.heap G c (fQ P E H fn.results.toList).v:=by
 have key:∀{cs:List Value},(fn.results.toList.mapM (sV a.tmps)).run P w=.ok cs w ->
   (results fn a.tmps).run P w=.ok (if h:cs.length=1 then cs[0]else .tuple cs.toArray) w:=by
  intro cs h
  show(do let vs <-fn.results.mapM (sV a.tmps);pure (if h:vs.size=1 then vs[0]else .tuple vs):Sem Value).run P w=_
  rw[Array.mapM_eq_mapM_toList];simp only[Sem.run_bind,Sem.run_map,h,Result.andThen_ok,Sem.run_pure];simp
 unfold fQ at hok|-;split at hok
 .rename_i r hr
  obtain⟨c,h1,h2⟩:=o7 (P:=P) hS hE hok;refine⟨c,?_,h2⟩;rw[key (cs:=[c]) (by rw[hr,mapM_cons];simp only[mapM_nil,Sem.run_bind,h1,Result.andThen_ok,Sem.run_pure])];rfl
 .rename_i rs hne
  obtain⟨cs,h1,h2⟩:=oZ (P:=P) hS hE hok;have hl:=h2.length
  have hl1:∀rs,(iu P E H rs).1.length=rs.length:=by
   intro rs
   induction rs with
   |nil=>rfl
   |cons r rs ih=>simp[iu,ih]
  have hn1:¬ cs.length=1:=by
   rw[hl,hl1];intro h
   match hrs:fn.results.toList,h with
   |[r],_=>exact hne r hrs
  refine⟨.tuple cs.toArray,?_,by simp only[VR];exact⟨cs,rfl,h2⟩⟩;rw[key h1,dif_neg hn1]
end

def gW:Nat->List Va->dY
 |_,[]=>[]
 |k,v::vs=>(k,v)::gW (k+1) vs
theorem jx{K:Nat->Prop}{h:Array Obj}{G:List Gh}:∀{cs:List Value} {vs:List Va} (k m:Nat),VRs K h G cs vs->VR K h G (if k<=m then cs.getD (m-k) undef else undef) (eC (gW k vs) m)
 |cs,[],k,m,_=>by simp[gW,eC,VR]
 |cs,v::vs,k,m,H=>by
  simp only[VRs]at H;obtain⟨c,cs',rfl,h2,h3⟩:=H;simp only[gW,eC]
  by_cases e:k=m
  .subst e
   simpa using h2
  .rw[if_neg e]
   have ih:=jx (k+1) m h3
   by_cases hk:k<=m
   .rw[if_pos (by omega)]at ih
    rw[if_pos hk,show m-k=(m-(k+1))+1 by omega]
    simpa using ih
   .rw[if_neg (by omega)]at ih
    rw[if_neg hk];exact ih

theorem Ext.out{kp:Nat->Bool}{K0 K:Nat->Prop}{G0 G:List Gh}{w0 w:World}{H:List Ob}(h:Ext kp K0 G0 w0 K G w){m:Nat}(hm:G0.length<=m):Ext kp K0 G0 w0 (BA K G H m) (G.take m) w :=
 { h.cut hm with
  k:=fun b hb=>.inl (h.k b hb)
  knew:=fun b hb=>by
   rcases hb with hb|⟨o,g,ho,hg,hb⟩
   .exact h.knew b hb
   .exact .inr (h.gown o g b hg hb) }

theorem cz {P:Program} {f:FuncId} {fn:Func} {code:Code} {args:List Va} {X:List Ob} {Post:Va->List Ob->Prop} (m n:Nat) (rs:List ResultVar) (hf:P.funcs[f]?=some fn) (hb:fn.body=some code) (hnm:(fn.name == "runtime.NumGoroutine")=false) (hn:fn.ntmps=n) (hrs:fn.results.toList=rs) (hl:args.length<=n)
  (h:∀B,Wp P (kinds X) n B code (lU P rs m (kinds X) Post) (gW 0 args) X):Does P f args X Post:=by
 subst hn;subst hrs;refine⟨⟨fn,hf,hnm,by rw[hb];rfl⟩,fun K G w vals hS hV=>?_⟩;have hvl:=hV.length;refine calls_of_wp hf hb ?_
 have hB:G.length=(kinds X).length:=by rw[Kq,hS.len]
 have hR:Rel (cx P (kinds X) fn.ntmps ⟨K,G,w⟩) (gW 0 args) X { tmps:=vals.toArray++Array.replicate (fn.ntmps-vals.toArray.size) undef,defers:=[] } w:=by
  refine⟨K,G,Ext.refl _ _ _ _,hS,fun j=>?_,rfl,by simp;omega,F3 X⟩;have:=jx (K:=K) (h:=w.heap) (G:=G) 0 j hV;simp only[Nat.zero_le,if_true,Nat.sub_zero]at this
  have e:(vals.toArray++Array.replicate (fn.ntmps-vals.toArray.size) undef).getD j undef=vals.getD j undef:=by
   rw[Array.getD_eq_getD_getElem?,getD_eq_getElem?_getD,Array.getElem?_append];split
   .simp
   .rename_i hj
    rw[getElem?_eq_none (by simpa using hj),Array.getElem?_replicate]
    split <;> rfl
  rw[e];exact this
 refine wp_mono (h ⟨K,G,w⟩ hB _ _ hR) ?_;intro e a w' ⟨E,H,hq,hR'⟩
 have fin:iP P fn.results.toList m (kinds X) Post E H->a.defers=[]/\∃v,(results fn a.tmps).run P w'=.ok v w'/\∃c r X' K' G',Ending.returned v=.returned c/\Post r X'/\Ext (en (kinds X)) K G w K' G' w'/\St K' G' X' w'/\VR K' w'.heap G' c r/\fC (en (kinds X)) X':=by
  intro hq;obtain⟨h1,h2,h3,h4,h5,r,X',h6,h7,h8,h9,h10,h11⟩:=hq;obtain⟨K1,G1,hX,hS1,hE,hd,_,hk⟩:=hR';obtain⟨c,hc,hv⟩:=wo (P:=P) hS1 hE h1
  have hmk:G.length<=m:=by rw[hB];exact h2
  have hMg:Mg (fun o=>decide (o<m)) G1 (G1.take m):=fun o g ho hg=>by rw[getElem?_take,if_pos (by simpa using ho)];exact hg
  have hv2:VR (BA K1 G1 H m) w'.heap (G1.take m) c (gh m H (fQ P E H fn.results.toList).v):=VR.keep ⟨fun _ h=>h,fun _ _=>rfl⟩ hMg _ _ h4 (ph hS1 m hv);have hS2:=hS1.out h5;have hS3:=hS2.cut h7 (by rw[h8];exact h10);rw[h8,take_take,Nat.min_self]at hS3;refine⟨hd,c,hc,c,r,X',BA K1 G1 H m,G1.take m,rfl,h11,hX.out hmk,hS3,kz h6 hv2,fun o ho=>?_⟩;obtain⟨vs,hvs,hkt⟩:=hk o ho;have hom:o<m:=Nat.lt_of_lt_of_le (kB ho) h2;obtain⟨x,hx,hle⟩:=CE h7 o _ (getElem?_eq_getElem (by rw[h8];exact hom));obtain⟨x0,hx0,rfl⟩:=Hu m H hx;rw[getElem?_take,if_pos hom,hvs]at hx0;cases hx0;exact⟨_,getElem?_eq_getElem (by rw[h8];exact hom),mg hle (by cases vs <;> first|rfl|exact hkt|cases hkt)⟩
 cases e with
 |normal=>exact fin hq
 |ret=>exact fin hq
 |exit id=>exact hq.elim
 |goto l=>exact hq.elim
 |panic ch=>exact hq.elim
 |outgrown=>exact hq.elim

mutual
def gK:Va->Option Va
 |.p x=>some (.p x)
 |.nils=>some (.p (.l []))
 |.full rows=>some (.p (.l rows))
 |.rp row=>some (.rp row)
 |.nil=>some .nil
 |.raw v=>some (.raw v)
 |.er v=>some (.er v)
 |.top=>some .top
 |.fn f vs=>match rB vs with
  |some us=>some (.fn f us)
  |none=>none
 |.agg vs=>match rB vs with
  |some us=>some (.agg us)
  |none=>none
 |.tup vs=>match rB vs with
  |some us=>some (.tup us)
  |none=>none
 |_=>none
def rB:List Va->Option (List Va)
 |[]=>some []
 |v::vs=>match gK v,rB vs with
  |some u,some us=>some (u::us)
  |_,_=>none
end
mutual
def gJ(H:List Ob):Va->Option Va
 |.p x=>some (.p x)
 |.nils=>some (.p (.l []))
 |.full rows=>some (.p (.l rows))
 |.rp row=>some (.rp row)
 |.nil=>some .nil
 |.raw v=>some (.raw v)
 |.er v=>some (.er v)
 |.top=>some .top
 |.buf o=>match gR 0 H (ed H o)with
  |some rows=>some (.p (.l rows))
  |none=>none
 |.nv o i=>match ed H o with
  |.inn _ _ ins=>some (.p (.l (ins.getD i [])))
  |_=>none
 |.el o sz i off=>match gR 0 H (ed H o)with
  |some rows=>if Cm (ed H o)=sz then some (.rp ((rows.getD i []).drop off))else none
  |none=>none
 |.ptr o off=>match ed H o with
  |.cells _ vs=>match eK vs with
   |some ds=>some (.rp (ds.drop off))
   |none=>none
  |_=>none
 |.fn f vs=>match g7 H vs with
  |some us=>some (.fn f us)
  |none=>none
 |.agg vs=>match g7 H vs with
  |some us=>some (.agg us)
  |none=>none
 |.tup vs=>match g7 H vs with
  |some us=>some (.tup us)
  |none=>none
 |_=>none
def g7(H:List Ob):List Va->Option (List Va)
 |[]=>some []
 |v::vs=>match gJ H v,g7 H vs with
  |some u,some us=>some (u::us)
  |_,_=>none
end
mutual
def Va.flat:Va->Bool
 |.p (.b _)|.p (.i _ _)|.p (.s _)|.nil|.raw _|.er _|.top|.nils=>true
 |.agg vs|.tup vs=>cL vs
 |_=>false
def cL:List Va->Bool
 |[]=>true
 |v::vs=>v.flat&&cL vs
end
section
variable {K:Nat->Prop} {h:Array Obj} {G:List Gh}
mutual
theorem ta:∀{c:Value} {v u:Va},gK v=some u->VR K h G c v->VR K h [] c u
 |c,.p x,u,hp,hv=>by simp only[gK]at hp;cases hp;simpa only[VR]using hv
 |c,.nils,u,hp,hv=>by simp only[gK]at hp;cases hp;simp only[VR,DR]at *;exact .inl ⟨⟨none,hv⟩,trivial⟩
 |c,.full rows,u,hp,hv=>by simp only[gK]at hp;cases hp;simp only[VR]at *;exact hv.1
 |c,.rp row,u,hp,hv=>by simp only[gK]at hp;cases hp;simpa only[VR]using hv
 |c,.nil,u,hp,hv=>by simp only[gK]at hp;cases hp;simpa only[VR]using hv
 |c,.raw v,u,hp,hv=>by simp only[gK]at hp;cases hp;simpa only[VR]using hv
 |c,.er v,u,hp,hv=>by simp only[gK]at hp;cases hp;simpa only[VR]using hv
 |c,.top,u,hp,hv=>by simp only[gK]at hp;cases hp;simp[VR]
 |c,.fn f vs,u,hp,hv=>by
  simp only[gK]at hp;split at hp
  .rename_i us hu;cases hp;simp only[VR]at *;obtain⟨cs,h1,h2⟩:=hv;exact⟨cs,h1,C4 hu h2⟩
  .cases hp
 |c,.agg vs,u,hp,hv=>by
  simp only[gK]at hp;split at hp
  .rename_i us hu;cases hp;simp only[VR]at *;obtain⟨cs,h1,h2⟩:=hv;exact⟨cs,h1,C4 hu h2⟩
  .cases hp
 |c,.tup vs,u,hp,hv=>by
  simp only[gK]at hp;split at hp
  .rename_i us hu;cases hp;simp only[VR]at *;obtain⟨cs,h1,h2⟩:=hv;exact⟨cs,h1,C4 hu h2⟩
  .cases hp
 |c,.ptr _ _,u,hp,_=>by simp[gK]at hp
 |c,.cs _ _,u,hp,_=>by simp[gK]at hp
 |c,.el _ _ _ _,u,hp,_=>by simp[gK]at hp
 |c,.buf _,u,hp,_=>by simp[gK]at hp
 |c,.mp _,u,hp,_=>by simp[gK]at hp
 |c,.np _,u,hp,_=>by simp[gK]at hp
 |c,.sd _,u,hp,_=>by simp[gK]at hp
 |c,.vw _ _ _ _,u,hp,_=>by simp[gK]at hp
 |c,.bufc _ _,u,hp,_=>by simp[gK]at hp
 |c,.nv _ _,u,hp,_=>by simp[gK]at hp
 |c,.ne _ _ _ _ _,u,hp,_=>by simp[gK]at hp
 |c,.cnd _ _,u,hp,_=>by simp[gK]at hp
theorem C4:∀{cs:List Value} {vs us:List Va},rB vs=some us->VRs K h G cs vs->VRs K h [] cs us
 |cs,[],us,hp,hv=>by simp only[rB]at hp;cases hp;simpa only[VRs]using hv
 |cs,v::vs,us,hp,hv=>by
  simp only[rB]at hp;split at hp
  .rename_i u us' h1 h2
   cases hp;simp only[VRs]at *;obtain⟨c,cs',e1,e2,e3⟩:=hv;exact⟨c,cs',e1,ta h1 e2,C4 h2 e3⟩
  .cases hp
end
mutual
theorem CJ{K':Nat->Prop}{h':Array Obj}{G':List Gh}:∀{c:Value} {v:Va},v.flat=true->VR K h G c v->VR K' h' G' c v
 |c,.p (.b x),_,hv=>by simpa only[VR,DR]using hv
 |c,.p (.i k n),_,hv=>by simpa only[VR,DR]using hv
 |c,.p (.s x),_,hv=>by simpa only[VR,DR]using hv
 |c,.nil,_,hv=>by simpa only[VR]using hv
 |c,.nils,_,hv=>by simpa only[VR]using hv
 |c,.raw v,_,hv=>by simpa only[VR]using hv
 |c,.er v,_,hv=>by simpa only[VR]using hv
 |c,.top,_,_=>by simp[VR]
 |c,.agg vs,hf,hv=>by simp only[VR,Va.flat]at *;obtain⟨cs,h1,h2⟩:=hv;exact⟨cs,h1,HD hf h2⟩
 |c,.tup vs,hf,hv=>by simp only[VR,Va.flat]at *;obtain⟨cs,h1,h2⟩:=hv;exact⟨cs,h1,HD hf h2⟩
theorem HD{K':Nat->Prop}{h':Array Obj}{G':List Gh}:∀{cs:List Value} {vs:List Va},cL vs=true->VRs K h G cs vs->VRs K' h' G' cs vs
 |cs,[],_,hv=>by simpa only[VRs]using hv
 |cs,v::vs,hf,hv=>by
  simp only[VRs,cL,Bool.and_eq_true]at *;obtain⟨c,cs',e1,e2,e3⟩:=hv;exact⟨c,cs',e1,CJ hf.1 e2,HD hf.2 e3⟩
end
end
def rN(K:Nat->Prop)(G:List Gh)(b:Nat):Prop:=K b∨∃(o:Nat) (g:Gh),G[o]?=some g/\own g b
section
variable {K:Nat->Prop} {w:World} {G:List Gh} {H:List Ob}
mutual
theorem tz(hS:St K G H w):∀{c:Value} {v u:Va},gJ H v=some u->VR K w.heap G c v->VR (rN K G) w.heap [] c u
 |c,.p x,u,hp,hv=>by simp only[gJ]at hp;cases hp;exact VR.keep (K:=K) (f:=fun _=>false) ⟨fun _ h=>.inl h,fun _ _=>rfl⟩ (fun _ _ h=>Bool.noConfusion h) c (.p x) rfl hv
 |c,.nils,u,hp,hv=>by simp only[gJ]at hp;cases hp;simp only[VR,DR]at *;exact .inl ⟨⟨none,hv⟩,trivial⟩
 |c,.full rows,u,hp,hv=>by simp only[gJ]at hp;cases hp;simp only[VR]at *;exact DR.mono ⟨fun _ h=>.inl h,fun _ _=>rfl⟩ _ _ hv.1
 |c,.rp row,u,hp,hv=>by simp only[gJ]at hp;cases hp;exact VR.keep (K:=K) (f:=fun _=>false) ⟨fun _ h=>.inl h,fun _ _=>rfl⟩ (fun _ _ h=>Bool.noConfusion h) c (.rp row) rfl hv
 |c,.nil,u,hp,hv=>by simp only[gJ]at hp;cases hp;simpa only[VR]using hv
 |c,.raw v,u,hp,hv=>by simp only[gJ]at hp;cases hp;simpa only[VR]using hv
 |c,.er v,u,hp,hv=>by simp only[gJ]at hp;cases hp;simpa only[VR]using hv
 |c,.top,u,hp,hv=>by simp only[gJ]at hp;cases hp;simp[VR]
 |c,.buf o,u,hp,hv=>by
  simp only[gJ]at hp;split at hp
  .rename_i rows hob
   cases hp;simp only[VR]at hv;obtain⟨g,hg,rfl,_⟩:=hv;simp only[VR];exact jl hS hob hg (fun _ h=>.inl h) (fun o' g' b _ h2 h3=>.inr ⟨o',g',h2,h3⟩) (Nat.zero_le _)
  .cases hp
 |c,.nv o i,u,hp,hv=>by
  simp only[gJ]at hp;split at hp
  .rename_i T sz ins hob
   cases hp;have ho:=zn hob (by simp);simp only[VR]at hv;obtain⟨g,a,n,cap,hg,hi,rfl⟩:=hv;obtain⟨e1,e2,e3,_⟩:=hS.ob o g _ hg ho;have hil:=(List.getElem?_eq_some_iff.1 hi).1
   have hin:ins[i]?=some (ins.getD i []):=by rw[getElem?_eq_getElem (by omega),getD_eq_getElem?_getD,getElem?_eq_getElem (by omega)];rfl
   simp only[VR]
   exact CP (e3 i _ _ hi hin) (fun _ h=>.inl h) fun b hb=>.inr ⟨o,g,hg,.inr ⟨_,mem_of_getElem? hi,hb⟩⟩
  .cases hp
 |c,.el o sz i off,u,hp,hv=>by
  simp only[gJ]at hp;split at hp
  .rename_i rows hob
   split at hp
   .rename_i hsz
    cases hp;simp only[VR]at hv;obtain⟨g,b,n,cap,hg,hgb,hsv,rfl⟩:=hv;obtain⟨cur,T,fr,xs,h1,h2,h3⟩:=sS (K':=rN K G) hS hob hg hgb (fun _ h=>.inl h) (fun o' g' b _ h2 h3=>.inr ⟨o',g',h2,h3⟩);subst hsz;have hK:rN K G b:=.inr ⟨o,g,hg,.inl hgb⟩
    rcases Nat.lt_or_ge i rows.length with hi|hi
    .obtain⟨hd,hrl⟩:=h2.get i hi
     exact FS (off:=i*Cm (ed H o)) hK h1 (fun j v hj=>by
      rw[getElem?_take]at hj;split at hj
      .rw[getElem?_drop,<-h3,getElem?_take]at hj
       split at hj
       .rw[<-Array.getElem?_toList];exact hj
       .cases hj
      .cases hj) hd off
    .have e:rows.getD i []=[]:=by rw[getD_eq_getElem?_getD,getElem?_eq_none hi];rfl
     rw[e];simp only[drop_nil,VR];exact⟨b,_,cur,T,fr,[],rfl,hK,h1,by simp,by simp[DRs]⟩
   .cases hp
  .cases hp
 |c,.ptr o off,u,hp,hv=>by
  simp only[gJ]at hp;split at hp
  .rename_i vs hob
   split at hp
   .rename_i ds hds
    cases hp;simp only[VR]at hv;obtain⟨g,b,hg,hgb,rfl⟩:=hv;obtain⟨b',cs,hb',hb,hvs⟩:=hS.ob o g _ hg (zn hob (by simp))
    obtain rfl:b'=b:=by rw[hgb]at hb';exact(Option.some.inj hb').symm
    have hd:=lj hvs hds;have hd':DRs (rN K G) w.heap cs ds:=DRs.mono ⟨fun _ h=>.inl h,fun _ _=>rfl⟩ _ _ hd;have:=FS (K:=rN K G) (G:=[]) (off:=0) (.inr ⟨o,g,hg,.inl hgb⟩) hb (fun j v hj=>by rw[Nat.zero_add];simpa using hj) hd' off
    simpa using this
   .cases hp
  .cases hp
 |c,.cs _ _,u,hp,_=>by simp[gJ]at hp
 |c,.fn f vs,u,hp,hv=>by
  simp only[gJ]at hp;split at hp
  .rename_i us hu;cases hp;simp only[VR]at *;obtain⟨cs,h1,h2⟩:=hv;exact⟨cs,h1,vM hS hu h2⟩
  .cases hp
 |c,.agg vs,u,hp,hv=>by
  simp only[gJ]at hp;split at hp
  .rename_i us hu;cases hp;simp only[VR]at *;obtain⟨cs,h1,h2⟩:=hv;exact⟨cs,h1,vM hS hu h2⟩
  .cases hp
 |c,.tup vs,u,hp,hv=>by
  simp only[gJ]at hp;split at hp
  .rename_i us hu;cases hp;simp only[VR]at *;obtain⟨cs,h1,h2⟩:=hv;exact⟨cs,h1,vM hS hu h2⟩
  .cases hp
 |c,.ne _ _ _ _ _,u,hp,_=>by simp[gJ]at hp
 |c,.mp _,u,hp,_=>by simp[gJ]at hp
 |c,.np _,u,hp,_=>by simp[gJ]at hp
 |c,.sd _,u,hp,_=>by simp[gJ]at hp
 |c,.vw _ _ _ _,u,hp,_=>by simp[gJ]at hp
 |c,.bufc _ _,u,hp,_=>by simp[gJ]at hp
 |c,.cnd _ _,u,hp,_=>by simp[gJ]at hp
theorem vM(hS:St K G H w):∀{cs:List Value} {vs us:List Va},g7 H vs=some us->VRs K w.heap G cs vs->VRs (rN K G) w.heap [] cs us
 |cs,[],us,hp,hv=>by simp only[g7]at hp;cases hp;simpa only[VRs]using hv
 |cs,v::vs,us,hp,hv=>by
  simp only[g7]at hp;split at hp
  .rename_i u us' h1 h2
   cases hp;simp only[VRs]at *;obtain⟨c,cs',e1,e2,e3⟩:=hv;exact⟨c,cs',e1,tz hS h1 e2,vM hS h2 e3⟩
  .cases hp
end

theorem St.nil(hb:∀b,K b->b<w.heap.size)(ht:TabOk K w.heap):St K [] [] w :=
 ⟨rfl,hb,fun o g b h=>by simp at h,fun o o' g g' b h=>by simp at h,fun o g x h=>by simp at h,ht⟩
theorem FZ(hS:St K G H w):∀b,rN K G b->b<w.heap.size:=fun b hb=>by
 rcases hb with h|⟨o,g,h1,h2⟩
 .exact hS.kb b h
 .exact(hS.gbo o g b h1 h2).1
theorem St.after{K0 K':Nat->Prop}{G':List Gh}{w':World}{kp:Nat->Bool}(hS:St K G H w)(hX:Ext kp K0 [] w K' G' w'):St K G H w':=by
 have fr:∀b,b<w.heap.size->w'.heap[b]?=w.heap[b]?:=fun b hb=>hX.frame b hb (fun o g0 h=>by simp at h)
 exact⟨hS.len,fun b hb=>Nat.lt_of_lt_of_le (hS.kb b hb) hX.size,fun o g b h1 h2=>⟨Nat.lt_of_lt_of_le (hS.gbo o g b h1 h2).1 hX.size,(hS.gbo o g b h1 h2).2⟩,hS.ijo,
  fun o g x h1 h2=>ObR.keep ⟨fun _ h=>h,fun b hb=>fr b (hS.kb b hb)⟩ (Mg.refl (fun _=>true) G) (fun b hb=>fr b (hS.gbo o g b h1 hb).1) (Ob.all_true _) (hS.ob o g x h1 h2),hS.tb.mono ⟨fun _ h=>h,fun b hb=>fr b (hS.kb b hb)⟩⟩
end

section
variable {P:Program} {kl:List Bool} {n:Nat} {B:Bs} {K:dY->List Ob->Prop} {E:dY} {H:List Ob} {ops:Array Oper}

theorem BM{o:Oper}{c:Call}{fop:Operand}{f:FuncId}{cs:List Value}{a:Act}{w:World}(ho:o.op=.call c)(hc:c.callee=.value fop)(hf:a.eval fop=.func (.func f) #[] cs.toArray)(hcal:BK P f) :
  (execOp a.eval o).run P w=.ok (.enter f ((c.args.toList.map a.eval)++cs).toArray) w:=by
 obtain⟨callee,args,argTypes⟩:=c;obtain⟨dst,op,ty,pos,af,gd⟩:=o;cases ho;simp only at hc;subst hc;obtain⟨fn,h1,h2,h3⟩:=hcal
 have e:args.map a.eval=(args.toList.map a.eval).toArray:=by cases args;simp
 simp only[execOp,resolve,hf,Deferred.ofValue,Sem.run_bind,Sem.run_pure,Result.andThen_ok,invoke,callFunc,run_program,h1,h2,h3,Bool.false_eq_true,if_false];simp

theorem Rg.call{o:Oper}{l:List Oper}{c:Call}{fop:Operand}{f:FuncId}{caps args:List Va}{Post:Va->List Ob->Prop}(hs:Does P f args [] Post)(ho:o.op=.call c)(hg:o.guard=none)(hc:c.callee=.value fop)(hd:fz n o.dst)
  (hok:opOk true E fop/\allOk true E c.args.toList) (hf:opnd E fop=.fn f caps) (hp:rB (opnds E c.args.toList++caps)=some args)
  (cont:∀r X',Post r X'->r.ok->X'=[]/\Rg P kl n B ops l (eB E o.dst r) H K):Rg P kl n B ops (o::l) E H K:=by
 intro hB a w Q hR hK
 refine wpList_plain hg fun K' hK'=>?_
 obtain⟨Kk,G,hX,hS,hE,hdf,hn,hkp⟩:=hR;have hvf:=zw hE rfl fop hok.1;rw[hf]at hvf;simp only[VR]at hvf;obtain⟨cs,hcs,hcv⟩:=hvf;have hargs:=vf hE rfl c.args.toList hok.2;have hall:=C4 hp (hargs.append hcv);unfold Oper.wp;rw[BM ho hc hcs hs.1];simp only[Oper.upon];refine(hs.2 Kk [] w _ (St.nil hS.kb hS.tb) hall).mono ?_;rintro e w' ⟨c',r,X',K1,G1,rfl,hpost,hX1,hS1,hv,_⟩;obtain⟨rfl,hrg⟩:=cont r X' hpost hv.ok
 have hG1:G1=[]:=by have:=hS1.len;simpa using this
 subst hG1
 -- K1 and the caller's own objects
 have hkk:∀b,K1 b->Kk b∨w.heap.size<=b:=fun b hb=>(hX1.knew b hb).imp id fun h=>h.elim (fun⟨_,_,h,_⟩=>by simp at h) id
 have fr:∀b,b<w.heap.size->w'.heap[b]?=w.heap[b]?:=fun b hb=>hX1.frame b hb (fun o g0 h=>by simp at h)
 have hS':=hS.after hX1
 have hS2:St K1 G H w':=⟨hS'.len,hS1.kb,fun o g b h1 h2=>⟨(hS'.gbo o g b h1 h2).1,fun hk=>by
   rcases hkk b hk with h|h
   .exact(hS'.gbo o g b h1 h2).2 h
   .have:=(hS.gbo o g b h1 h2).1;omega⟩,hS'.ijo,
  fun o g x h1 h2=>ObR.keep ⟨hX1.k,fun _ _=>rfl⟩ (Mg.refl (fun _=>true) G) (fun _ _=>rfl) (Ob.all_true _) (hS'.ob o g x h1 h2),hS1.tb⟩
 have hX2:Ext (en kl) B.K0 B.G0 B.w0 K1 G w':=by
  refine hX.trans { Ext.refl (en kl) Kk G w with
   os:=hX1.os,tape:=hX1.tape,output:=hX1.output,size:=hX1.size,k:=hX1.k,knew:=fun b hb=>(hkk b hb).imp id .inr,frame:=fun b hb _=>fr b hb }
 have hRV:RelV (cx P kl n B) E H c' r a w':=⟨K1,G,hX2,hS2,fun m=>VR.keep (f:=fun _=>true) ⟨hX1.k,fun b hb=>fr b (hS.kb b hb)⟩ (Mg.refl _ G) _ _ (Va.all_true _) (hE m),hdf,hn,hkp,VR.grow ⟨fun _ h=>h,fun _ _=>rfl⟩ (fun o g h=>by simp at h) _ _ hv⟩;exact hK' _ _ (hrg hB _ _ _ (hRV.put o.dst (zM hd)) hK)

theorem de{o:Oper}{l:List Oper}{c:Call}{fop:Operand}{f:FuncId}{caps args:List Va}{Post:Va->List Ob->Prop}(hs:Does P f args [] Post)(ho:o.op=.call c)(hg:o.guard=none)(hc:c.callee=.value fop)(hd:fz n o.dst)
  (hok:opOk true E fop/\allOk true E c.args.toList) (hf:opnd E fop=.fn f caps) (hp:g7 H (opnds E c.args.toList++caps)=some args)
  (cont:∀r X',Post r X'->r.ok->r.flat=true/\Rg P kl n B ops l (eB E o.dst r) H K):Rg P kl n B ops (o::l) E H K:=by
 intro hB a w Q hR hK
 refine wpList_plain hg fun K' hK'=>?_
 obtain⟨Kk,G,hX,hS,hE,hdf,hn,hkp⟩:=hR;have hvf:=zw hE rfl fop hok.1;rw[hf]at hvf;simp only[VR]at hvf;obtain⟨cs,hcs,hcv⟩:=hvf;have hargs:=vf hE rfl c.args.toList hok.2;have hall:=vM hS hp (hargs.append hcv);unfold Oper.wp;rw[BM ho hc hcs hs.1];simp only[Oper.upon];refine(hs.2 (rN Kk G) [] w _ (St.nil (FZ hS) (hS.tb.mono ⟨fun _ h=>.inl h,fun _ _=>rfl⟩)) hall).mono ?_;rintro e w' ⟨c',r,X',K1,G1,rfl,hpost,hX1,hS1,hv,_⟩;obtain⟨hflat,hrg⟩:=cont r X' hpost hv.ok
 have fr:∀b,b<w.heap.size->w'.heap[b]?=w.heap[b]?:=fun b hb=>hX1.frame b hb (fun o g0 h=>by simp at h)
 have hX2:Ext (en kl) B.K0 B.G0 B.w0 Kk G w':=by
  refine hX.trans { Ext.refl (en kl) Kk G w with
   os:=hX1.os,tape:=hX1.tape,output:=hX1.output,size:=hX1.size,frame:=fun b hb _=>fr b hb }
 have hRV:RelV (cx P kl n B) E H c' r a w':=⟨Kk,G,hX2,hS.after hX1,fun m=>VR.keep (f:=fun _=>true) ⟨fun _ h=>h,fun b hb=>fr b (hS.kb b hb)⟩ (Mg.refl _ G) _ _ (Va.all_true _) (hE m),hdf,hn,hkp,CJ hflat hv⟩;exact hK' _ _ (hrg hB _ _ _ (hRV.put o.dst (zM hd)) hK)

theorem Rg.callG{o:Oper}{l:List Oper}{c:Call}{fop:Operand}{f:FuncId}{caps args:List Va}{j:Nat}{want g:Bool}(r:Va)(hs:g=true->Does P f args [] fun r' X=>r'=r/\X=[])(ho:o.op=.call c)(hg:o.guard=some (j,want))(hb:ib ops.toList E j want=some g)(hc:c.callee=.value fop)(hd:fz n o.dst)
  (hok:opOk g E fop/\allOk g E c.args.toList) (hf:opnd E fop=.fn f caps) (hp:g7 H (opnds E c.args.toList++caps)=some args) (hflat:r.flat=true)
  (cont:(g=true->r.ok)->Rg P kl n B ops l (eB E o.dst (.cnd g r)) H K):Rg P kl n B ops (o::l) E H K:=by
 intro hB a w Q hR hK;have hw:=nK hR hg hb
 refine wpList_step fun K' hK'=>?_
 have hR':=hR;obtain⟨Kk,G,hX,hS,hE,hdf,hn,hkp⟩:=hR'
 cases g with
 |true =>
  rw[if_pos hw];have hs:=hs rfl;have hvf:=zw hE rfl fop hok.1;rw[hf]at hvf;simp only[VR]at hvf;obtain⟨cs,hcs,hcv⟩:=hvf;have hargs:=vf hE rfl c.args.toList hok.2;have hall:=vM hS hp (hargs.append hcv);unfold Oper.wp;rw[BM ho hc hcs hs.1];simp only[Oper.upon];refine(hs.2 (rN Kk G) [] w _ (St.nil (FZ hS) (hS.tb.mono ⟨fun _ h=>.inl h,fun _ _=>rfl⟩)) hall).mono ?_;rintro e w' ⟨c',r',X',K1,G1,rfl,⟨rfl,rfl⟩,hX1,hS1,hv,_⟩
  have hrg:=cont fun _=>hv.ok
  have fr:∀b,b<w.heap.size->w'.heap[b]?=w.heap[b]?:=fun b hb=>hX1.frame b hb (fun o g0 h=>by simp at h)
  have hX2:Ext (en kl) B.K0 B.G0 B.w0 Kk G w':=by
   refine hX.trans { Ext.refl (en kl) Kk G w with
    os:=hX1.os,tape:=hX1.tape,output:=hX1.output,size:=hX1.size,frame:=fun b hb _=>fr b hb }
  have hRV:RelV (cx P kl n B) E H c' (.cnd true r') a w':=⟨Kk,G,hX2,hS.after hX1,fun m=>VR.keep (f:=fun _=>true) ⟨fun _ h=>h,fun b hb=>fr b (hS.kb b hb)⟩ (Mg.refl _ G) _ _ (Va.all_true _) (hE m),hdf,hn,hkp,by simp only[VR];exact⟨fun _=>CJ hflat hv,fun e=>Bool.noConfusion e⟩⟩;exact hK' _ _ (hrg hB _ _ _ (hRV.put o.dst (zM hd)) hK)
 |false =>
  rw[if_neg (by rw[hw];simp)];have hRV:RelV (cx P kl n B) E H undef (.cnd false r) a w:=⟨Kk,G,hX,hS,hE,hdf,hn,hkp,by simp[VR]⟩;exact hK' _ _ (cont (fun e=>Bool.noConfusion e) hB _ _ _ (hRV.put o.dst (zM hd)) hK)
end

def Is{α:Type}(x y:α):Prop:=x=y
theorem Is.mk{α:Type}{x:α}:Is x x:=rfl

def rD(E:dY)(o:Oper):Option (FuncId×List Va):=match o.op,o.guard with
 |.call c,none=>match c.callee with
  |.value fop=>match opnd E fop with
   |.fn f caps=>some (f,opnds E c.args.toList++caps)
   |_=>none
  |_=>none
 |_,_=>none
def HI(E:dY)(o:Oper):Option (FuncId×List Va×Nat×Bool):=match o.op,o.guard with
 |.call c,some (j,want)=>match c.callee with
  |.value fop=>match opnd E fop with
   |.fn f caps=>some (f,opnds E c.args.toList++caps,j,want)
   |_=>none
  |_=>none
 |_,_=>none
def fX(n:Nat)(g:Bool)(E:dY)(o:Oper):Prop:=match o.op with
 |.call c=>match c.callee with
  |.value fop=>fz n o.dst/\opOk g E fop/\allOk g E c.args.toList
  |_=>False
 |_=>False

theorem B7{E:dY}{o:Oper}{f:FuncId}{av:List Va}(h:rD E o=some (f,av)):∃c fop caps,o.op=.call c/\o.guard=none/\c.callee=.value fop/\opnd E fop=.fn f caps/\av=opnds E c.args.toList++caps:=by
 unfold rD at h;split at h
 rotate_left
 .cases h
 rename_i c h1 h2
 split at h
 rotate_left
 .cases h
 rename_i fop h3
 split at h
 rotate_left
 .cases h
 rename_i f' caps h4
 cases h;exact⟨c,fop,caps,h1,h2,h3,h4,rfl⟩
theorem ld{n:Nat}{E:dY}{o:Oper}{g:Bool}(h:fX n g E o){c:Call}{fop:Operand}(h1:o.op=.call c)(h2:c.callee=.value fop):fz n o.dst/\opOk g E fop/\allOk g E c.args.toList:=by
 simpa only[fX,h1,h2]using h


section
variable {P:Program} {kl:List Bool} {n:Nat} {B:Bs} {K:dY->List Ob->Prop} {E:dY} {H:List Ob} {ops:Array Oper} {Q:Qt}

theorem cb{id:Nat}{l:List Oper}{y:Code}(h:∀K:dY->List Ob->Prop,(∀E H,Wp P kl n B y Q E H->K E H)->eS P kl n B l.toArray K (eL P kl n l l ⟨E,H,True⟩)):Wp P kl n B (.seq (.region id l.toArray false) y) Q E H :=
 Wp.seq fun _ hK=>Wp.region fun K' hK'=>h K' fun E' H' hy=>hK' E' H' (hK E' H' hy)

theorem Rg.callF{o:Oper}{l:List Oper}{f:FuncId}{av args:List Va}{v:Va}(hs:Does P f args [] fun r X=>r=v/\X=[])(ha:Is (rD E o) (some (f,av)))(hp:Is (rB av) (some args))(hok:fX n true E o)
  (cont:v.ok->eS P kl n B ops K (eL P kl n ops.toList l ⟨eB E o.dst v,H,True⟩)):Rg P kl n B ops (o::l) E H K:=by
 obtain⟨c,fop,caps,h1,h2,h3,h4,rfl⟩:=B7 ha;obtain⟨hd,hk⟩:=ld hok h1 h3
 exact Rg.call hs h1 h2 h3 hd hk h4 hp fun r X' ⟨hr,hX⟩ hv=>⟨hX,hr ▸ Rg.run (cont (hr ▸ hv))⟩
theorem dT{o:Oper}{l:List Oper}{f:FuncId}{av args:List Va}{Post:Va->List Ob->Prop}(hs:Does P f args [] Post)(ha:Is (rD E o) (some (f,av)))(hp:Is (rB av) (some args))(hok:fX n true E o)
  (cont:∀r X',Post r X'->r.ok->X'=[]/\eS P kl n B ops K (eL P kl n ops.toList l ⟨eB E o.dst r,H,True⟩)):Rg P kl n B ops (o::l) E H K:=by
 obtain⟨c,fop,caps,h1,h2,h3,h4,rfl⟩:=B7 ha;obtain⟨hd,hk⟩:=ld hok h1 h3
 exact Rg.call hs h1 h2 h3 hd hk h4 hp fun r X' hr hv=>⟨(cont r X' hr hv).1,Rg.run (cont r X' hr hv).2⟩
theorem dL{o:Oper}{l:List Oper}{f:FuncId}{av args:List Va}{v:Va}(hs:Does P f args [] fun r X=>r=v/\X=[])(ha:Is (rD E o) (some (f,av)))(hp:Is (g7 H av) (some args))(hok:fX n true E o)(hf:Is v.flat true)
  (cont:v.ok->eS P kl n B ops K (eL P kl n ops.toList l ⟨eB E o.dst v,H,True⟩)):Rg P kl n B ops (o::l) E H K:=by
 obtain⟨c,fop,caps,h1,h2,h3,h4,rfl⟩:=B7 ha;obtain⟨hd,hk⟩:=ld hok h1 h3
 exact de hs h1 h2 h3 hd hk h4 hp fun r X' ⟨hr,_⟩ hv=>⟨hr ▸ hf,hr ▸ Rg.run (cont (hr ▸ hv))⟩
theorem dM{o:Oper}{l:List Oper}{f:FuncId}{av args:List Va}{j:Nat}{want g:Bool}{v:Va}(hs:g=true->Does P f args [] fun r X=>r=v/\X=[])(ha:Is (HI E o) (some (f,av,j,want)))(hb:Is (ib ops.toList E j want) (some g))(hp:Is (g7 H av) (some args))(hok:fX n g E o)(hf:Is v.flat true)
  (cont:(g=true->v.ok)->eS P kl n B ops K (eL P kl n ops.toList l ⟨eB E o.dst (.cnd g v),H,True⟩)):Rg P kl n B ops (o::l) E H K:=by
 unfold Is HI at ha;split at ha
 rotate_left
 .cases ha
 rename_i c j' want' h1 h2
 split at ha
 rotate_left
 .cases ha
 rename_i fop h3
 split at ha
 rotate_left
 .cases ha
 rename_i f' caps h4
 cases ha;obtain⟨hd,hk⟩:=ld hok h1 h3
 exact Rg.callG v hs h1 h2 hb h3 hd hk h4 hp hf fun hv=>Rg.run (cont hv)
end

theorem wx(a b:Bool):(bif a then true else b)=(a||b):=by cases a <;> rfl
theorem s8(a b:Bool):(bif a then b else false)=(a&&b):=by cases a <;> rfl
theorem Jt{α:Type}(a b:List α):(List.append a b).length=a.length+b.length:=length_append
theorem Fq{b:Builtin}{args:Array Operand}{ts:Array TypeId}:(Call.operands ⟨.builtin b,args,ts⟩).toList=args.toList:=by simp[Call.operands]
theorem Fp{f:Operand}{args:Array Operand}{ts:Array TypeId}:(Call.operands ⟨.value f,args,ts⟩).toList=f::args.toList:=by simp[Call.operands]
theorem Fv(a:Bool):(a == true)=a:=by cases a <;> rfl
theorem Fw(a:Bool):(a == false)=!a:=by cases a <;> rfl
theorem Jq(a:Bool):((!a)=true)=(a=false):=by cases a <;> simp
theorem EJ(n:Nat):ed [] n=.gone:=rfl

attribute [go_sem high] pb pc
attribute [go_sem low] wy
attribute [go_sem] eL kD xe lI Ez EB EA eS eY opnd opOk eu rA um cv lF Bl eC eB gW fz ib also uH iN uI s9 oOk allOk partsOk partsV opnds
 fH jV gH vA iq uP rn qE uB tn JM wP gR Cm eq_self l6 i5 mR Bj l8 gD ik iX AD mi iE gx Fe A4 xv uL uS jZ lz Jr m7 m5 gY wt EH qD ol tf A3 yg xt xw xy gQ gT nb BB rM ym gS jt CU C3 iG iB CS vd kV Ea mV mU EE D9 so p5 tA iL EK Au oz gz
 ed qc tm rl tL gL setR g5 Bq iF yr xD nC eK fF fc Va.prune cr Va.all cG Ob.prune en kinds Ob.kept fh jb fS fT Va.isCell rO
 rD HI fX gK rB gJ g7 Va.flat cL zD fb zS zL EN leH og fJ mf uT hZ Ob.all iV
 lU iP fQ iu n7 gh vB Ao fR Va.ok c6 Ob.ok oG vz
 Jt Fq Fp wx s8 Fv Fw Jq Option.map_none Option.map_some
 Bool.false_eq_true if_false if_true true_and and_true Nat.zero_add Nat.add_zero imp_self forall_const implies_true getElem?_cons_zero getElem?_cons_succ ite_true ite_false
 cond_true cond_false map_cons map_nil length_cons length_nil take_succ_cons take_zero take_nil drop_succ_cons drop_zero drop_nil cons_append nil_append set_cons_zero set_cons_succ
 getD_cons_zero getD_cons_succ decide_true decide_false Bool.and_true Bool.true_and Bool.not_true Bool.not_false Nat.lt_irrefl not_false_eq_true ne_eq append_nil Bool.and_self

def Agree(xs:List Operand)(E E':dY):Prop:=∀x∈xs,eu E x=eu E' x
section
variable {P:Program} {g:Bool} {E E':dY} {H:List Ob}

theorem Agree.opnd{x:Operand}(h:eu E x=eu E' x):Vc.opnd E x=Vc.opnd E' x:=by unfold Vc.opnd;rw[h]
theorem Agree.opOk{x:Operand}(h:eu E x=eu E' x):Vc.opOk g E x=Vc.opOk g E' x:=by unfold Vc.opOk;rw[h]
theorem Agree.opnds:∀{xs:List Operand},Agree xs E E'->Vc.opnds E xs=Vc.opnds E' xs
 |[],_=>rfl
 |x::xs,h=>by simp only[Vc.opnds];rw[Agree.opnd (h x (by simp)),Agree.opnds fun y hy=>h y (by simp[hy])]
theorem Agree.allOk:∀{xs:List Operand},Agree xs E E'->Vc.allOk g E xs=Vc.allOk g E' xs
 |[],_=>rfl
 |x::xs,h=>by simp only[Vc.allOk];rw[Agree.opOk (h x (by simp)),Agree.allOk fun y hy=>h y (by simp[hy])]
theorem Agree.partsV:∀{xs:List (Nat×Operand)},(∀x∈xs,eu E x.2=eu E' x.2)->Vc.partsV E xs=Vc.partsV E' xs
 |[],_=>rfl
 |x::xs,h=>by simp only[Vc.partsV];rw[Agree.opnd (h x (by simp)),Agree.partsV fun y hy=>h y (by simp[hy])]
theorem Agree.partsOk:∀{xs:List (Nat×Operand)},(∀x∈xs,eu E x.2=eu E' x.2)->Vc.partsOk g E xs=Vc.partsOk g E' xs
 |[],_=>rfl
 |x::xs,h=>by simp only[Vc.partsOk];rw[Agree.opOk (h x (by simp)),Agree.partsOk fun y hy=>h y (by simp[hy])]
theorem Agree.oOk{x:Option Operand}(h:∀y,x=some y->eu E y=eu E' y):Vc.oOk g E x=Vc.oOk g E' x:=by
 cases x with
 |none=>rfl
 |some y=>exact Agree.opOk (h y rfl)
theorem Agree.mapO{x:Option Operand}(h:∀y,x=some y->eu E y=eu E' y):x.map (Vc.opnd E)=x.map (Vc.opnd E'):=by
 cases x with
 |none=>rfl
 |some y=>exact congrArg some (Agree.opnd (h y rfl))

theorem Kn(op:Op)(h:Agree op.operands.toList E E'):eY P g E H op=eY P g E' H op:=by
 unfold Agree at h
 cases op with
 |move x=>have h:=h x (by simp[Op.operands]);simp only[eY,Agree.opnd h,Agree.opOk h]
 |assign x=>have h:=h x (by simp[Op.operands]);simp only[eY,Agree.opnd h,Agree.opOk h]
 |pick c a b =>
  have h1:=h c (by simp[Op.operands]);have h2:=h a (by simp[Op.operands]);have h3:=h b (by simp[Op.operands])
  simp only[eY,Agree.opnd h1,Agree.opOk h1,h2,h3]
 |build t ps =>
  have hp:∀x∈ps.toList,eu E x.2=eu E' x.2:=fun x hx=>h x.2 (by simp only[Op.operands,mem_map];exact⟨x,hx,rfl⟩)
  simp only[eY,Agree.partsV hp,Agree.partsOk hp]
 |load t x=>have h:=h x (by simp[Op.operands]);simp only[eY,Agree.opnd h,Agree.opOk h]
 |nilCheck x=>have h:=h x (by simp[Op.operands]);simp only[eY,Agree.opnd h,Agree.opOk h]
 |binOp op t x y u =>
  have h1:=h x (by simp[Op.operands]);have h2:=h y (by simp[Op.operands])
  simp only[eY,Agree.opnd h1,Agree.opOk h1,Agree.opnd h2,Agree.opOk h2]
 |unOp op t x=>have h:=h x (by simp[Op.operands]);simp only[eY,Agree.opnd h,Agree.opOk h]
 |convert s d x=>have h:=h x (by simp[Op.operands]);simp only[eY,Agree.opnd h,Agree.opOk h]
 |makeFunc fn first caps =>
  have hc:Agree caps.toList E E':=fun x hx=>h x (by simp only[Op.operands,Array.toList_append,mem_append];exact .inr hx)
  simp only[eY,Agree.opnds hc,Agree.allOk hc]
 |slice t x l hi m =>
  have h1:=h x (by simp[Op.operands])
  have h2:∀y,l=some y->eu E y=eu E' y:=fun y e=>h y (by simp[Op.operands,e])
  have h3:∀y,hi=some y->eu E y=eu E' y:=fun y e=>h y (by simp[Op.operands,e])
  have h4:∀y,m=some y->eu E y=eu E' y:=fun y e=>h y (by simp[Op.operands,e])
  simp only[eY,Agree.opnd h1,Agree.opOk h1,Agree.oOk h2,Agree.oOk h3,Agree.oOk h4,Agree.mapO h2,Agree.mapO h3,Agree.mapO h4]
 |fieldAddr t x f=>have h:=h x (by simp[Op.operands]);simp only[eY,Agree.opnd h,Agree.opOk h]
 |field t x f=>have h:=h x (by simp[Op.operands]);simp only[eY,Agree.opnd h,Agree.opOk h]
 |indexAddr t x y =>
  have h1:=h x (by simp[Op.operands]);have h2:=h y (by simp[Op.operands])
  simp only[eY,Agree.opnd h1,Agree.opOk h1,Agree.opnd h2,Agree.opOk h2]
 |index t x y =>
  have h1:=h x (by simp[Op.operands]);have h2:=h y (by simp[Op.operands])
  simp only[eY,Agree.opnd h1,Agree.opOk h1,Agree.opnd h2,Agree.opOk h2]
 |extract x i=>have h:=h x (by simp[Op.operands]);simp only[eY,Agree.opnd h,Agree.opOk h]
 |lookup t x y cok =>
  have h1:=h x (by simp[Op.operands]);have h2:=h y (by simp[Op.operands])
  simp only[eY,Agree.opnd h1,Agree.opOk h1,Agree.opnd h2,Agree.opOk h2]
 |call c =>
  have ha:∀x∈c.args.toList,eu E x=eu E' x:=fun x hx=>h x (by simp only[Op.operands,Call.operands,Array.toList_append,mem_append];exact .inr hx)
  simp only[eY];split
  .rename_i x t _ _ h2 _
   have h:=ha x (by rw[h2];simp);simp only[Agree.opnd h,Agree.opOk h]
  .rename_i x t _ _ h2 _
   have h:=ha x (by rw[h2];simp);simp only[Agree.opnd h,Agree.opOk h]
  .rename_i x y _ h2
   have h1:=ha x (by rw[h2];simp);have h2:=ha y (by rw[h2];simp)
   simp only[Agree.opnd h1,Agree.opOk h1,Agree.opnd h2,Agree.opOk h2]
  .rename_i x y z _ h2
   have h1:=ha x (by rw[h2];simp);have h3:=ha z (by rw[h2];simp);have h2:=ha y (by rw[h2];simp)
   simp only[Agree.opnd h1,Agree.opOk h1,Agree.opnd h2,Agree.opOk h2,Agree.opnd h3,Agree.opOk h3]
  .rename_i x y _ h2
   have h1:=ha x (by rw[h2];simp);have h2:=ha y (by rw[h2];simp)
   simp only[Agree.opnd h1,Agree.opOk h1,Agree.opnd h2,Agree.opOk h2]
  .rfl
 |_=>rfl

def nz(E:dY):Op->Option (Nat->Bool)
 |.call c=>match c.callee,c.args.toList with
  |.builtin .append,[x,_]=>match Vc.opnd E x with
   |.buf o=>some (· != o)
   |_=>none
  |_,_=>none
 |_=>none
def kq:Option (Nat->Bool)->Va->Va
 |none,v=>v
 |some f,v=>v.prune f
def Alike(po:Option (Nat->Bool))(E':dY)(r r':Ev):Prop:=r'.v=r.v/\r'.H=r.H/\r'.ok=r.ok/\(r.ok->∀m,eC r'.E m=kq po (eC E' m))

theorem fY{po:Option (Nat->Bool)}:Alike po E' eN eN:=⟨rfl,rfl,rfl,fun h=>h.elim⟩
theorem jY{v:Va}{Hn:List Ob}{ok:Prop}:Alike none E' ⟨v,E,Hn,ok⟩ ⟨v,E',Hn,ok⟩:=⟨rfl,rfl,rfl,fun _ _=>rfl⟩
theorem Alike.also{po:Option (Nat->Bool)}{r r':Ev}{c d c' d':Prop}(h:Alike po E' r r')(hc:c=c')(hd:d=d'):Alike po E' ⟨r.v,r.E,r.H,c/\d/\r.ok⟩ ⟨r'.v,r'.E,r'.H,c'/\d'/\r'.ok⟩:=by
 subst hc;subst hd
 exact⟨h.1,h.2.1,by simp only[h.2.2.1],fun k=>h.2.2.2 k.2.2⟩
theorem Alike.also3{po:Option (Nat->Bool)}{r r':Ev}{c d f c' d' f':Prop}(h:Alike po E' r r')(hc:c=c')(hd:d=d')(hf:f=f'):Alike po E' ⟨r.v,r.E,r.H,c/\d/\f/\r.ok⟩ ⟨r'.v,r'.E,r'.H,c'/\d'/\f'/\r'.ok⟩:=by
 subst hc;subst hd;subst hf
 exact⟨h.1,h.2.1,by simp only[h.2.2.1],fun k=>h.2.2.2 k.2.2.2⟩
theorem Alike.also1{po:Option (Nat->Bool)}{r r':Ev}{c c':Prop}(h:Alike po E' r r')(hc:c=c'):Alike po E' ⟨r.v,r.E,r.H,c/\r.ok⟩ ⟨r'.v,r'.E,r'.H,c'/\r'.ok⟩:=by
 subst hc;exact⟨h.1,h.2.1,by simp only[h.2.2.1],fun k=>h.2.2.2 k.2⟩
theorem mL{kp:Nat->Bool}(op:Op)(h:Agree op.operands.toList E E'):Alike (nz E op) E' (jV P kp E H op) (jV P kp E' H op):=by
 unfold Agree at h
 cases op with
 |alloc t =>
  simp only[jV,xv,nz];split
  .split
   .exact jY
   .exact jY
  .exact fY
 |box t x =>
  have h:=h x (by simp[Op.operands]);simp only[jV,m7,nz,Agree.opnd h,Agree.opOk h];exact jY
 |buildSlice t n ps =>
  have hp:∀x∈ps.toList,eu E x.2=eu E' x.2:=fun x hx=>h x.2 (by simp only[Op.operands,mem_map];exact⟨x,hx,rfl⟩)
  simp only[jV,m5,gY,nz,Agree.partsV hp,Agree.partsOk hp]
  cases wt P t <;> simp only[cond_true,cond_false]
  all_goals repeat' split
  all_goals first|exact jY|exact fY|(cases tf P _ _ <;> exact jY)
 |store t x y =>
  have h1:=h x (by simp[Op.operands]);have h2:=h y (by simp[Op.operands])
  simp only[jV,nz,Agree.opnd h1,Agree.opnd h2];refine Alike.also ?_ (Agree.opOk h1) (Agree.opOk h2);unfold xt
  repeat' split
  all_goals first|exact jY|exact fY
 |convert s d x =>
  have h1:=h x (by simp[Op.operands]);simp only[jV,nz,Agree.opnd h1];refine Alike.also1 ?_ (Agree.opOk h1);unfold xw xy gQ
  repeat' split
  all_goals first|exact jY|exact fY
 |makeSlice t l c =>
  have h1:=h l (by simp[Op.operands]);have h2:=h c (by simp[Op.operands])
  simp only[jV,nz,Agree.opnd h1,Agree.opnd h2];refine Alike.also ?_ (Agree.opOk h1) (Agree.opOk h2);unfold gT
  repeat' split
  all_goals first|exact jY|exact fY
 |call c =>
  have ha:∀x∈c.args.toList,eu E x=eu E' x:=fun x hx=>h x (by simp only[Op.operands,Call.operands,Array.toList_append,mem_append];exact .inr hx)
  simp only[jV];split
  .rename_i x y t u hcal hxy _
   have h1:=ha x (by rw[hxy];simp);have h2:=ha y (by rw[hxy];simp)
   simp only[Agree.opnd h1,Agree.opnd h2];refine Alike.also ?_ (Agree.opOk h1) (Agree.opOk h2);simp only[nz,hcal,hxy,Agree.opnd h1];generalize Vc.opnd E' x=dst;unfold nb;cases dst
   case buf o =>
    simp only[]
    repeat' split
    all_goals first|exact fY|exact⟨rfl,rfl,rfl,fun _ m=>qh _ E' m⟩
   all_goals
    simp only[]
    repeat' split
    all_goals first|exact fY|exact jY
  .rename_i x hcal hx
   have h1:=ha x (by rw[hx];simp);simp only[nz,hcal,hx,Agree.opnd h1,Agree.opOk h1];exact jY
  .rename_i x y t u hcal hxy _
   have h1:=ha x (by rw[hxy];simp);have h2:=ha y (by rw[hxy];simp)
   simp only[nz,hcal,hxy,Agree.opnd h1,Agree.opnd h2,Agree.opOk h1,Agree.opOk h2];exact jY
  .rename_i x y t u hcal hxy _
   have h1:=ha x (by rw[hxy];simp);have h2:=ha y (by rw[hxy];simp)
   simp only[Agree.opnd h1,Agree.opnd h2];refine Alike.also ?_ (Agree.opOk h1) (Agree.opOk h2);simp only[nz,hcal,hxy];unfold mR
   repeat' split
   all_goals first|exact jY|exact fY
  .exact fY
 |makeMap t r =>
  cases r with
  |none =>
   simp only[jV,l6,nz];split
   .exact jY
   .exact fY
  |some _=>exact fY
 |mapUpdate t m k x =>
  have h1:=h m (by simp[Op.operands]);have h2:=h k (by simp[Op.operands]);have h3:=h x (by simp[Op.operands])
  simp only[jV,nz,Agree.opnd h1,Agree.opnd h2,Agree.opnd h3];refine Alike.also3 ?_ (Agree.opOk h1) (Agree.opOk h2) (Agree.opOk h3);unfold i5
  repeat' split
  all_goals first|exact jY|exact fY
 |insert t m k x =>
  have h1:=h m (by simp[Op.operands]);have h2:=h k (by simp[Op.operands]);have h3:=h x (by simp[Op.operands])
  simp only[jV,nz,Agree.opnd h1,Agree.opnd h2,Agree.opnd h3];refine Alike.also3 ?_ (Agree.opOk h1) (Agree.opOk h2) (Agree.opOk h3);unfold i5
  repeat' split
  all_goals first|exact jY|exact fY
 |_=>exact fY
def ww(P:Program)(E:dY)(H:List Ob):Op->Option (Option (Nat->Bool))
 |.store _ x y=>match Vc.opnd E x with
  |.el o _ _ _=>match ed H o with
   |.nst _ _ _ _ p _ _=>some (match Vc.opnd E y with
    |.buf m=>some fun q=>!(q == p)&&!(q == m)
    |_=>none)
   |_=>none
  |.ne _ _ _ _ _=>some none
  |_=>none
 |.buildSlice t n ps=>match z7 P t with
  |.slice e _ _ _=>match Tabs.nest e with
   |some (k,_,_)=>some (match qE n ps.toList with
    |some x=>match Vc.opnd E x with
     |.agg cs=>match rl cs k with
      |.buf m=>some (· != m)
      |_=>none
     |_=>none
    |none=>none)
   |none=>none
  |_=>none
 |.makeSlice t _ _=>match z7 P t with
  |.slice e _ _ _=>match Tabs.nest e with
   |some _=>some none
   |none=>none
  |_=>none
 |.call c=>match rn c with
  |some (x,y,_,_)=>match Vc.opnd E x with
   |.nv q _=>some (some (· != q))
   |.buf o=>match ed H o with
    |.nst _ _ _ _ p _ _=>some (match Vc.opnd E y with
     |.buf o2=>match ed H o2 with
      |.nst _ _ _ _ p2 _ _=>some fun q=>!(q == o)&&(!(q == p)&&(!(q == o2)&&!(q == p2)))
      |_=>none
     |_=>none)
    |_=>none
   |_=>none
  |none=>none
 |_=>none
def iJ(P:Program)(E:dY)(H:List Ob)(op:Op):Option (Nat->Bool):=match ww P E H op with
 |some po=>po
 |none=>nz E op
def AlikeO(po:Option (Option (Nat->Bool)))(E':dY):Option Ev->Option Ev->Prop
 |some r,some r'=>match po with
  |some p=>Alike p E' r r'
  |none=>False
 |none,none=>po=none
 |_,_=>False
theorem Gp{v:Va}{f:Nat->Bool}{Hn:List Ob}{ok:Prop}:Alike (some f) E' ⟨v,fF f E,Hn,ok⟩ ⟨v,fF f E',Hn,ok⟩:=⟨rfl,rfl,rfl,fun _ m=>qh f E' m⟩
theorem AlikeO.also{po:Option (Option (Nat->Bool))}{r r':Option Ev}{c d c' d':Prop}(h:AlikeO po E' r r')(hc:c=c')(hd:d=d') :
  AlikeO po E' (vA c d r) (vA c' d' r'):=by
 cases r with
 |none=>cases r' with
  |none=>exact h
  |some r'=>exact h.elim
 |some r=>cases r' with
  |none=>exact h.elim
  |some r' =>
   cases po with
   |none=>exact h.elim
   |some p=>exact Alike.also h hc hd
theorem oB{kp:Nat->Bool}(op:Op)(h:Agree op.operands.toList E E'):AlikeO (ww P E H op) E' (gH P kp E H op) (gH P kp E' H op):=by
 unfold Agree at h
 cases op with
 |store t x y =>
  have h1:=h x (by simp[Op.operands]);have h2:=h y (by simp[Op.operands])
  simp only[gH,ww,Agree.opnd h1,Agree.opnd h2];refine AlikeO.also ?_ (Agree.opOk h1) (Agree.opOk h2);unfold iq;generalize Vc.opnd E' x=vx;generalize Vc.opnd E' y=vy
  cases vx <;> try (exact rfl)
  case el o sz i off =>
   simp only[];generalize ed H o=ob
   cases ob <;> try (exact rfl)
   case nst f T sz' k p rows st =>
    simp only[];cases ej P t
    .exact fY
    simp only[];cases vy
    case buf m =>
     simp only[]
     repeat' split
     all_goals first|exact Gp|exact fY
    all_goals
     simp only[]
     repeat' split
     all_goals first|exact jY|exact fY
  case ne o sz i j off =>
   simp only[]
   repeat' split
   all_goals first|exact jY|exact fY
 |buildSlice t n ps =>
  have hp:∀x∈ps.toList,eu E x.2=eu E' x.2:=fun x hx=>h x.2 (by simp only[Op.operands,mem_map];exact⟨x,hx,rfl⟩)
  simp only[gH,ww,uB];generalize z7 P t=kk
  cases kk <;> try (exact rfl)
  case slice e esz eb ez =>
   simp only[];generalize Tabs.nest e=nn;cases nn
   case none=>exact rfl
   case some kt =>
    obtain⟨k,Te,sze⟩:=kt;simp only[];cases hone:qE n ps.toList
    case none=>exact fY
    case some x =>
     have hx:eu E x=eu E' x:=hp (0,x) (by rw[(jq hone).2];simp);simp only[Agree.opnd hx,Agree.opOk hx];generalize Vc.opnd E' x=vx
     cases vx <;> try (exact fY)
     case agg cs =>
      simp only[];generalize rl cs k=va;cases va
      case buf m =>
       simp only[]
       repeat' split
       all_goals first|exact Gp|exact fY
      all_goals
       simp only[]
       repeat' split
       all_goals first|exact jY|exact fY
 |makeSlice t l c =>
  have h1:=h l (by simp[Op.operands]);have h2:=h c (by simp[Op.operands])
  simp only[gH,ww,Agree.opnd h1,Agree.opnd h2];refine AlikeO.also ?_ (Agree.opOk h1) (Agree.opOk h2);unfold tn;generalize z7 P t=kk
  cases kk <;> try (exact rfl)
  case slice e esz eb ez =>
   simp only[];generalize Tabs.nest e=nn;cases nn
   case none=>exact rfl
   case some kt =>
    obtain⟨k,Te,sze⟩:=kt;simp only[]
    repeat' split
    all_goals first|exact jY|exact fY
 |call c =>
  have ha:∀x∈c.args.toList,eu E x=eu E' x:=fun x hx=>h x (by simp only[Op.operands,Call.operands,Array.toList_append,mem_append];exact .inr hx)
  simp only[gH,ww];cases hap:rn c
  case none=>exact rfl
  case some q0 =>
   obtain⟨x,y,t,u⟩:=q0;obtain⟨hcal,hxy,_⟩:=jM hap
   have h1:=ha x (by rw[hxy];simp);have h2:=ha y (by rw[hxy];simp)
   simp only[Agree.opnd h1,Agree.opnd h2];refine AlikeO.also ?_ (Agree.opOk h1) (Agree.opOk h2);unfold uP;generalize Vc.opnd E' x=vx;generalize Vc.opnd E' y=vy
   cases vx <;> try (exact rfl)
   case nv q i =>
    simp only[]
    repeat' split
    all_goals first|exact Gp|exact fY
   case buf o =>
    simp only[];generalize ed H o=ob
    cases ob <;> try (exact rfl)
    case nst f T sz' k p rows st =>
     simp only[];generalize z7 P t=kk;cases vy
     case buf o2 =>
      simp only[];generalize hob2:ed H o2=ob2;cases ob2
      case nst f2 T2 sz2 k2 p2 rows2 st2 =>
       cases kk <;> try (exact fY)
       simp only[hob2];generalize ed H p=obp
       cases obp <;> try (exact fY)
       simp only[];split
       .exact Gp
       .exact fY
      all_goals
       cases kk <;> try (exact fY)
       simp only[hob2];generalize ed H p=obp
       cases obp <;> exact fY
     all_goals
      cases kk <;> exact fY
 |_=>exact rfl
theorem JR{kp:Nat->Bool}(op:Op)(h:Agree op.operands.toList E E'):Alike (iJ P E H op) E' (fH P kp E H op) (fH P kp E' H op):=by
 have hN:=oB (P:=P) (H:=H) (kp:=kp) op h;unfold fH iJ
 cases h1:gH P kp E H op with
 |none =>
  rw[h1]at hN
  cases h2:gH P kp E' H op with
  |none =>
   rw[h2]at hN;rw[show ww P E H op=none from hN];exact mL op h
  |some r'=>rw[h2]at hN;exact hN.elim
 |some r =>
  rw[h1]at hN
  cases h2:gH P kp E' H op with
  |none=>rw[h2]at hN;exact hN.elim
  |some r' =>
   rw[h2]at hN
   cases hp:ww P E H op with
   |none=>rw[hp]at hN;exact hN.elim
   |some po=>rw[hp]at hN;exact hN
end

def looks(ops:Array Oper)(i:Nat):List Operand:=match ops[i]? with
 |some o=>o.op.operands.toList++match o.guard with
  |some (j,_)=>match (ops[j]?).bind (·.dst)with
   |some d=>[.tmp d]
   |none=>[]
  |none=>[]
 |none=>[]
def ga(ops:Array Oper)(i:Nat):Option Tmp:=(ops[i]?).bind (·.dst)
def pE:Option (Nat->Bool)->dY->dY
 |none,E=>E
 |some f,E=>fF f E
theorem iD(po:Option (Nat->Bool))(E:dY)(m:Nat):eC (pE po E) m=kq po (eC E m):=by
 cases po with
 |none=>rfl
 |some o=>exact qh _ E m
theorem yE(E:dY)(d:Option Tmp)(v:Va)(m:Nat):eC (eB E d v) m=if d=some m then v else eC E m:=by
 cases d with
 |none=>simp[eB]
 |some d=>simp only[eB,eC,Option.some.injEq]

theorem Rel.ext{C:Cx}{E E':dY}{H:List Ob}{a:Act}{w:World}(h:∀m,eC E m=eC E' m)(hR:Rel C E H a w):Rel C E' H a w:=by
 obtain⟨K,G,h1,h2,h3,h4⟩:=hR;exact⟨K,G,h1,h2,fun m=>by rw[<-h m];exact h3 m,h4⟩
theorem Rel.drew{C:Cx}{E:dY}{H:List Ob}{a:Act}{w:World}(hR:Rel C E H a w)(d:Nat)(hd:w.drawn<=d):Rel C E H a { w with drawn:=d }:=by
 obtain⟨K,G,h1,h2,h3,h4⟩:=hR;exact⟨K,G,{ h1 with tape:=⟨h1.tape.1,fun m=>Nat.le_trans (h1.tape.2 m) hd⟩ },{ h2 with },h3,h4⟩

section
variable (P:Program) (kl:List Bool) (n:Nat) (B:Bs) (ops:Array Oper)

def Ly(i:Nat)(E:dY)(H:List Ob)(E':dY)(H':List Ob):Prop :=
 ∀(a:Act) (w:World) (Q:Exit->Act->World->Prop) (K:Act->World->Prop),Rel (cx P kl n B) E H a w->(∀a' w',Rel (cx P kl n B) E' H' a' w'->K a' w')->wpOp P ops Q i K a w
def Rdr(i:Nat)(S:dY)(v:Va)(H:List Ob):Prop:=∀E,Agree (looks ops i) S E->Ly P kl n B ops i E H (eB E (ga ops i) v) H
def Efr(i:Nat)(S:dY)(v:Va)(po:Option (Nat->Bool))(H H':List Ob):Prop:=∀E,Agree (looks ops i) S E->Ly P kl n B ops i E H (eB (pE po E) (ga ops i) v) H'

structure Pd where
 k:Nat
 S:dY
 v:Va
def Again(e:Pd)(po:Option (Nat->Bool))(H':List Ob):Prop:=Rdr P kl n B ops e.k e.S e.v H'/\kq po e.v=e.v/\Agree (looks ops e.k) e.S (pE po e.S)

def CI(i:Nat):List Nat:=match ops[i]? with
 |some o=>(o.after.toList.filter (Region.binds .any ·)).map (·.on)
 |none=>[]
def JG:Nat->List Nat->List Nat
 |0,L=>L
 |m+1,L=>JG m ((L++L.flatMap (CI ops)).eraseDups)
def rK(i k:Nat):Bool:=(JG ops 24 (CI ops i)).contains k
def DC(listed:Array Bool):Prop:=∀i,listed.getD i false=true->∀j∈CI ops i,listed.getD j false=true

def AnyO(K:dY->List Ob->Prop):Nat->List Pd->Array Bool->dY->List Ob->Prop
 |0,_,listed,E,H=>Region.ready .any ops listed=[]/\∃E2,(∀m,eC E m=eC E2 m)/\K E2 H
 |f+1,obs,listed,E,H=>(Region.ready .any ops listed=[]->∃E2,(∀m,eC E m=eC E2 m)/\K E2 H) /\
  ∀i∈Region.ready .any ops listed,∃v,(Rdr P kl n B ops i E v H/\AnyO K f obs (listed.setIfInBounds i true) (eB E (ga ops i) v) H) ∨
   (∃po H',Efr P kl n B ops i E v po H H'/\(∀e∈obs,rK ops i e.k=false->Again P kl n B ops e po H')/\AnyO K f obs (listed.setIfInBounds i true) (eB (pE po E) (ga ops i) v) H')
end

section
variable {P:Program} {kl:List Bool} {n:Nat} {B:Bs} {ops:Array Oper} {K:dY->List Ob->Prop}

theorem uu{listed:Array Bool}(hD:DC ops listed):∀(m:Nat) (L:List Nat),(∀x∈L,listed.getD x false=true)->∀x∈JG ops m L,listed.getD x false=true
 |0,L,h=>h
 |m+1,L,h=>uu hD m _ fun x hx=>by
  rw[mem_eraseDups,mem_append,mem_flatMap]at hx
  rcases hx with hx|⟨y,hy,hx⟩
  .exact h x hx
  .exact hD y (h y hy) x hx
theorem Kg{listed:Array Bool}{i:Nat}(h:i∈Region.ready .any ops listed):∀j∈CI ops i,listed.getD j false=true:=by
 obtain⟨_,o,ho,hall⟩:=mem_ready.1 h;intro j hj;simp only[CI,ho,mem_map,mem_filter]at hj;obtain⟨e,⟨he,hb⟩,rfl⟩:=hj;exact hall e (by simpa using he) hb
theorem Bi{listed:Array Bool}(hD:DC ops listed){i k:Nat}(h:i∈Region.ready .any ops listed)(hk:listed.getD k false=false):rK ops i k=false:=by
 cases e:rK ops i k with
 |false=>rfl
 |true =>
  have:=uu hD 24 _ (Kg h) k (by simpa [rK]using e)
  rw[this]at hk;cases hk
theorem kH{listed:Array Bool}{i j:Nat}(h:(listed.setIfInBounds i true).getD j false=true):j=i∨listed.getD j false=true:=by
 by_cases e:i=j
 .exact .inl e.symm
 .rw[getD_set_ne false e]at h;exact .inr h
theorem DC.set{listed:Array Bool}(hD:DC ops listed){i:Nat}(h:i∈Region.ready .any ops listed):DC ops (listed.setIfInBounds i true):=by
 intro x hx j hj
 rcases kH hx with rfl|hx
 .exact getD_set_true (Kg h j hj)
 .exact getD_set_true (hD x hx j hj)
theorem Agree.refl(xs:List Operand)(E:dY):Agree xs E E:=fun _ _=>rfl
theorem Agree.trans{xs:List Operand}{E E' E2:dY}(h:Agree xs E E')(k:Agree xs E' E2):Agree xs E E2:=fun x hx=>(h x hx).trans (k x hx)
theorem Agree.symm{xs:List Operand}{E E':dY}(h:Agree xs E E'):Agree xs E' E:=fun x hx=>(h x hx).symm
theorem Agree.of_get{xs:List Operand}{E E':dY}(h:∀m,eC E m=eC E' m):Agree xs E E':=fun x _=>by
 cases x <;> first|rfl|exact h _
theorem Agree.put{xs:List Operand}{d:Option Tmp}(h:∀s,d=some s->.tmp s∉xs)(E:dY)(v:Va):Agree xs E (eB E d v):=fun x hx=>by
 cases x with
 |tmp t=>simp only[eu,yE];rw[if_neg fun e=>h t e hx]
 |_=>rfl
theorem Rdr.agree{i:Nat}{S S':dY}{v:Va}{H:List Ob}(h:Rdr P kl n B ops i S v H)(k:Agree (looks ops i) S S'):Rdr P kl n B ops i S' v H:=fun E hE=>h E (k.trans hE)
theorem Efr.agree{i:Nat}{S S':dY}{v:Va}{po:Option (Nat->Bool)}{H H':List Ob}(h:Efr P kl n B ops i S v po H H')(k:Agree (looks ops i) S S'):Efr P kl n B ops i S' v po H H':=fun E hE=>h E (k.trans hE)
theorem tc{xs:List Operand}{po:Option (Nat->Bool)}{S S':dY}(h:Agree xs S S'):Agree xs (pE po S) (pE po S'):=fun x hx=>by
 have:=h x hx
 cases x with
 |tmp t=>simp only[eu,iD]at *;rw[this]
 |_=>rfl
theorem Again.agree{e:Pd}{S':dY}{po:Option (Nat->Bool)}{H':List Ob}(h:Again P kl n B ops e po H')(k:Agree (looks ops e.k) e.S S'):Again P kl n B ops ⟨e.k,S',e.v⟩ po H' :=
 ⟨h.1.agree k,h.2.1,(k.symm.trans h.2.2).trans (tc k)⟩

theorem AnyO.tail{e:Pd}:∀(f:Nat) {obs:List Pd} {listed:Array Bool} {E:dY} {H:List Ob},AnyO P kl n B ops K f (e::obs) listed E H->AnyO P kl n B ops K f obs listed E H
 |0,_,_,_,_,h=>h
 |f+1,_,_,_,_,h=>⟨h.1,fun i hi=>by
  obtain⟨v,h1|⟨po,H',h1,h2,h3⟩⟩:=h.2 i hi
  .exact⟨v,.inl ⟨h1.1,AnyO.tail f h1.2⟩⟩
  .exact⟨v,.inr ⟨po,H',h1,fun e' he=>h2 e' (mem_cons_of_mem _ he),AnyO.tail f h3⟩⟩⟩
theorem AnyO.swap{k:Nat}{S S':dY}{v:Va}(hk:Agree (looks ops k) S S'):∀(f:Nat) {obs:List Pd} {listed:Array Bool} {E:dY} {H:List Ob},AnyO P kl n B ops K f (⟨k,S,v⟩::obs) listed E H->AnyO P kl n B ops K f (⟨k,S',v⟩::obs) listed E H
 |0,_,_,_,_,h=>h
 |f+1,_,_,_,_,h=>⟨h.1,fun i hi=>by
  obtain⟨v,h1|⟨po,H',h1,h2,h3⟩⟩:=h.2 i hi
  .exact⟨v,.inl ⟨h1.1,AnyO.swap hk f h1.2⟩⟩
  .refine⟨v,.inr ⟨po,H',h1,fun e' he ha=>?_,AnyO.swap hk f h3⟩⟩
   rcases mem_cons.1 he with rfl|he
   .exact(h2 _ (mem_cons_self ..) ha).agree hk
   .exact h2 e' (mem_cons_of_mem _ he) ha⟩
theorem AnyO.ext:∀(f:Nat) {obs:List Pd} {listed:Array Bool} {E E':dY} {H:List Ob},(∀m,eC E m=eC E' m)->AnyO P kl n B ops K f obs listed E H->AnyO P kl n B ops K f obs listed E' H
 |0,_,_,_,_,_,he,h=>⟨h.1,by obtain⟨E2,h1,h2⟩:=h.2;exact⟨E2,fun m=>(he m).symm.trans (h1 m),h2⟩⟩
 |f+1,_,_,E,E',_,he,h=>⟨fun hr=>by obtain⟨E2,h1,h2⟩:=h.1 hr;exact⟨E2,fun m=>(he m).symm.trans (h1 m),h2⟩,fun i hi=>by
  obtain⟨v,h1|⟨po,H',h1,h2,h3⟩⟩:=h.2 i hi
  .exact⟨v,.inl ⟨h1.1.agree (Agree.of_get he),AnyO.ext f (fun m=>by simp only[yE];split;rfl;exact he m) h1.2⟩⟩
  .exact⟨v,.inr ⟨po,H',h1.agree (Agree.of_get he),h2,AnyO.ext f (fun m=>by simp only[yE,iD];split;rfl;rw[he m]) h3⟩⟩⟩

theorem nc{i j:Nat}{oi oj:Oper}(hi:ops[i]?=some oi)(hj:ops[j]?=some oj)(h:oi.apart ops oj=true) :
  (∀d,ga ops i=some d->.tmp d∉looks ops j)/\(∀d,ga ops j=some d->.tmp d∉looks ops i)/\(∀d,ga ops i=some d->ga ops j≠some d):=by
 obtain⟨h1,h2,h3⟩:=Oper.apart_spec h
 have key:∀(k:Nat) (o:Oper) (d:Tmp),ops[k]?=some o->.tmp d∈looks ops k->d∈o.looksAt ops:=by
  intro k o d ho hm;simp only[looks,ho,mem_append]at hm;unfold Oper.looksAt;rw[mem_append]
  rcases hm with hm|hm
  .exact .inl (mem_filterMap.2 ⟨.tmp d,by simpa using hm,rfl⟩)
  .refine .inr ?_
   cases hg:o.guard with
   |none=>rw[hg]at hm;simp at hm
   |some gw =>
    obtain⟨g,want⟩:=gw;rw[hg]at hm;simp only at hm|-
    cases hd:(ops[g]?).bind (·.dst)with
    |none=>rw[hd]at hm;simp at hm
    |some t=>rw[hd]at hm;simp at hm|-;exact hm
 simp only[ga,hi,hj,Option.bind_some];exact⟨fun d hd hm=>h1 d hd (key j oj d hj hm),fun d hd hm=>h3 d hd (key i oi d hi hm),h2⟩

theorem AnyO.first{k:Nat}{ok:Oper}{v:Va}(hk:ops[k]?=some ok):∀(f:Nat) {obs:List Pd} {listed:Array Bool} {E:dY} {H:List Ob},
  (∀j oj,ops[j]?=some oj->j≠k->listed.getD j true=false->(∀e∈oj.after,Region.binds .any e=true->e.on≠k)->ok.apart ops oj=true)->DC ops listed ->
  k∈Region.ready .any ops listed->Rdr P kl n B ops k E v H->AnyO P kl n B ops K f (⟨k,E,v⟩::obs) (listed.setIfInBounds k true) (eB E (ga ops k) v) H->AnyO P kl n B ops K (f+1) obs listed E H:=by
 intro f
 induction f with
 |zero =>
  intro obs listed E H _ _ hr hv h;refine⟨fun e=>(by rw[e]at hr;cases hr),fun j hj=>?_⟩
  by_cases e:j=k
  .subst e;exact⟨v,.inl ⟨hv,AnyO.tail 0 h⟩⟩
  .have:=ready_mono hj e
   rw[h.1]at this;cases this
 |succ f ih =>
  intro obs listed E H hfree hD hr hv h;refine⟨fun e=>(by rw[e]at hr;cases hr),fun j hj=>?_⟩
  by_cases e:j=k
  .subst e;exact⟨v,.inl ⟨hv,AnyO.tail (f+1) h⟩⟩
  obtain⟨hjun,oj,hoj,hall⟩:=mem_ready.1 hj;have hkun:=(mem_ready.1 hr).1
  have hkf:listed.getD k false=false:=by
   rcases Nat.lt_or_ge k listed.size with h'|h'
   .simp[h']at hkun|-;exact hkun
   .simp[h']at hkun
  have hnot:∀e∈oj.after,Region.binds .any e=true->e.on≠k:=fun e he hb heq=>by
   have h1:=hall e he hb
   rw[heq,hkf]at h1;cases h1
  obtain⟨a1,a2,a3⟩:=nc hk hoj (hfree j oj hoj e hjun hnot)
  have hfree':∀i oi,ops[i]?=some oi->i≠k->(listed.setIfInBounds j true).getD i true=false->(∀e∈oi.after,Region.binds .any e=true->e.on≠k)->ok.apart ops oi=true:=fun i oi hi hik hun hno=>by
   refine hfree i oi hi hik ?_ hno
   by_cases hji:j=i
   .subst hji;exact hjun
   .rw[getD_set_ne true hji]at hun;exact hun
  have hr':=ready_mono hr (Ne.symm e);obtain⟨u,h1|⟨po,H',h1,h2,h3⟩⟩:=h.2 j (ready_mono hj e)
  .refine⟨u,.inl ⟨h1.1.agree (Agree.put a1 E v).symm,ih hfree' (hD.set hj) hr' (hv.agree (Agree.put a2 E u)) ?_⟩⟩
   have h4:=AnyO.swap (Agree.put a2 E u) f h1.2;rw[Array.setIfInBounds_comm _ _ e];refine AnyO.ext f (fun m=>?_) h4;simp only[yE]
   by_cases c1:ga ops k=some m
   .rw[if_neg (a3 m c1),if_pos c1,if_pos c1]
   .simp only[if_neg c1]
  .have hag:=h2 ⟨k,E,v⟩ (mem_cons_self ..) (Bi hD hj hkf)
   have hE':Agree (looks ops k) E (eB (pE po E) (ga ops j) u):=hag.2.2.trans (Agree.put a2 _ u);refine⟨u,.inr ⟨po,H',h1.agree (Agree.put a1 E v).symm,fun e' he=>h2 e' (mem_cons_of_mem _ he),ih hfree' (hD.set hj) hr' (hag.1.agree hE') ?_⟩⟩;have h4:=AnyO.swap hE' f h3;rw[Array.setIfInBounds_comm _ _ e];refine AnyO.ext f (fun m=>?_) h4;simp only[yE,iD]
   by_cases c1:ga ops k=some m
   .rw[if_neg (a3 m c1),if_pos c1,if_pos c1];exact hag.2.1
   .simp only[if_neg c1]

theorem cK{Q:Exit->Act->World->Prop}:∀(f:Nat) {obs:List Pd} {listed:Array Bool} {E:dY} {H:List Ob} {a:Act} {w:World},AnyO P kl n B ops K f obs listed E H->Rel (cx P kl n B) E H a w ->
  (∀E' H' a' w',K E' H'->Rel (cx P kl n B) E' H' a' w'->Q .normal a' w')->wpAny P .any ops Q f listed a w
 |0,_,_,_,_,_,_,h,hR,hK=>⟨h.1,by obtain⟨E2,h1,h2⟩:=h.2;exact hK _ _ _ _ h2 (hR.ext h1)⟩
 |f+1,_,_,_,_,_,_,h,hR,hK=>⟨fun hr=>by obtain⟨E2,h1,h2⟩:=h.1 hr;exact hK _ _ _ _ h2 (hR.ext h1),fun i hi=>by
  obtain⟨v,h1|⟨po,H',h1,h2,h3⟩⟩:=h.2 i hi
  .exact h1.1 _ (Agree.refl _ _) _ _ _ _ hR fun a' w' hR'=>cK f h1.2 hR' hK
  .exact h1 _ (Agree.refl _ _) _ _ _ _ hR fun a' w' hR'=>cK f h3 hR' hK⟩
end

inductive Plan where
 |nil
 |rd (k:Nat) (l:Plan)
 |ef (k:Nat) (L:List Nat) (l:Plan)
 |fk (k:Nat) (L:List Nat) (l:Plan) (k':Nat) (L':List Nat) (l':Plan)
 |f3 (k:Nat) (L:List Nat) (l:Plan) (k':Nat) (L':List Nat) (l':Plan) (j:Nat) (M:List Nat) (m:Plan)
def Plan.length:Plan->Nat
 |.nil=>0
 |.rd _ l=>l.length+1
 |.ef _ _ l=>l.length+1
 |.fk _ _ l _ _ _=>l.length+1
 |.f3 _ _ l _ _ _ _ _ _=>l.length+1
def pl:List (Nat×Option (List Nat))->Plan
 |[]=>.nil
 |(k,none)::l=>.rd k (pl l)
 |(k,some L)::l=>.ef k L (pl l)
def g4(ops:Array Oper):Plan->List Nat->Array Bool->Bool
 |.nil,_,listed=>(Region.ready .any ops listed).isEmpty
 |.rd k l,done,listed=>(Region.ready .any ops listed).contains k&&Region.free .any ops listed k&&g4 ops l (k::done) (listed.setIfInBounds k true)
 |.ef k L l,done,listed=>(Region.ready .any ops listed == [k])&&done.all (fun j=>rK ops k j||L.contains j)&&g4 ops l done (listed.setIfInBounds k true)
 |.fk k L l k' L' l',done,listed=>(Region.ready .any ops listed).all (fun i=>i == k||i == k')&&(Region.ready .any ops listed).contains k&&done.all (fun j=>rK ops k j||L.contains j)&&done.all (fun j=>rK ops k' j||L'.contains j)&&(l'.length == l.length) &&
   g4 ops l done (listed.setIfInBounds k true)&&g4 ops l' done (listed.setIfInBounds k' true)
 |.f3 k L l k' L' l' j M m,done,listed=>(Region.ready .any ops listed).all (fun i=>i == k||(i == k'||i == j))&&(Region.ready .any ops listed).contains k&&done.all (fun j=>rK ops k j||L.contains j)&&done.all (fun j=>rK ops k' j||L'.contains j)&&done.all (fun i=>rK ops j i||M.contains i)&&(l'.length == l.length)&&(m.length == l.length) &&
   g4 ops l done (listed.setIfInBounds k true)&&g4 ops l' done (listed.setIfInBounds k' true)&&g4 ops m done (listed.setIfInBounds j true)

structure En where
 k:Nat
 S:dY
 v:Va
 re:Option (Nat->Bool)->List Ob->Prop
def yl(o:Nat->Bool)(S:dY):List Operand->Prop
 |[]=>True
 |.tmp t::xs=>(eC S t).prune o=eC S t/\yl o S xs
 |_::xs=>yl o S xs
def Oe(ops:Array Oper)(k:Nat)(S:dY)(v:Va):Option (Nat->Bool)->Prop
 |none=>True
 |some o=>v.prune o=v/\yl o S (looks ops k)
def nF(L:List Nat)(po:Option (Nat->Bool))(H':List Ob):List En->Prop
 |[]=>True
 |e::l=>(bif L.contains e.k then e.re po H' else True)/\nF L po H' l

section
variable (P:Program) (kl:List Bool) (n:Nat) (B:Bs) (ops:Array Oper)
def En.ok(e:En):Prop:=∀po H',e.re po H'->Again P kl n B ops ⟨e.k,e.S,e.v⟩ po H'
def Dr(l:Plan)(obs:List En)(E:dY)(H:List Ob)(K:dY->List Ob->Prop):Prop :=
 B.G0.length=kl.length->(∀e∈obs,e.ok P kl n B ops)->∀listed,DC ops listed->g4 ops l (obs.map (·.k)) listed=true->AnyO P kl n B ops K l.length (obs.map fun e=>⟨e.k,e.S,e.v⟩) listed E H
def Br(k:Nat)(L:List Nat)(l:Plan)(obs:List En)(E:dY)(H:List Ob)(K:dY->List Ob->Prop):Prop :=
 B.G0.length=kl.length->(∀e∈obs,e.ok P kl n B ops)->∀listed,DC ops listed->k∈Region.ready .any ops listed->(obs.map (·.k)).all (fun j=>rK ops k j||L.contains j)=true->g4 ops l (obs.map (·.k)) (listed.setIfInBounds k true)=true ->
  ∃v,(Rdr P kl n B ops k E v H/\AnyO P kl n B ops K l.length (obs.map fun e=>⟨e.k,e.S,e.v⟩) (listed.setIfInBounds k true) (eB E (ga ops k) v) H) ∨
   (∃po H',Efr P kl n B ops k E v po H H'/\(∀e∈obs.map (fun e=>(⟨e.k,e.S,e.v⟩:Pd)),rK ops k e.k=false->Again P kl n B ops e po H') /\
    AnyO P kl n B ops K l.length (obs.map fun e=>⟨e.k,e.S,e.v⟩) (listed.setIfInBounds k true) (eB (pE po E) (ga ops k) v) H')
end

section
variable {P:Program} {kl:List Bool} {n:Nat} {B:Bs} {ops:Array Oper} {K:dY->List Ob->Prop} {l:Plan} {obs:List En} {E:dY} {H:List Ob}

theorem Dr.nil(h:K E H):Dr P kl n B ops .nil obs E H K:=fun _ _ listed _ hp=>⟨by simpa [g4]using hp,E,fun _=>rfl,h⟩
theorem sY{k:Nat}{listed:Array Bool}(h:k∈Region.ready .any ops listed):∃o,ops[k]?=some o:=by
 obtain⟨_,o,ho,_⟩:=mem_ready.1 h;exact⟨o,ho⟩
theorem Dr.read{k:Nat}{v:Va}{re:Option (Nat->Bool)->List Ob->Prop}(hr:B.G0.length=kl.length->Rdr P kl n B ops k E v H)(ho:B.G0.length=kl.length->En.ok P kl n B ops ⟨k,E,v,re⟩)(h:Dr P kl n B ops l (⟨k,E,v,re⟩::obs) (eB E (ga ops k) v) H K) :
  Dr P kl n B ops (.rd k l) obs E H K:=by
 intro hB hobs listed hD hp;simp only[g4,Bool.and_eq_true]at hp;obtain⟨⟨h1,h2⟩,h3⟩:=hp
 have hk:k∈Region.ready .any ops listed:=by simpa using h1
 obtain⟨o,hko⟩:=sY hk
 exact AnyO.first hko l.length (Region.free_spec hko h2) hD hk (hr hB) (h hB (fun e he=>by
  rcases mem_cons.1 he with rfl|he
  .exact ho hB
  .exact hobs e he) _ (hD.set hk) h3)
theorem J1{L:List Nat}{po:Option (Nat->Bool)}{H':List Ob}:∀{obs:List En},nF L po H' obs->∀e∈obs,L.contains e.k=true->e.re po H'
 |[],_,_,he,_=>by cases he
 |e0::obs,h,e,he,hc=>by
  rcases mem_cons.1 he with rfl|he
  .have:=h.1;rw[hc]at this;exact this
  .exact J1 h.2 e he hc
theorem Br.eff{k:Nat}{v:Va}{po:Option (Nat->Bool)}{H':List Ob}{L:List Nat}(hr:B.G0.length=kl.length->Efr P kl n B ops k E v po H H')(ha:nF L po H' obs)(h:Dr P kl n B ops l obs (eB (pE po E) (ga ops k) v) H' K) :
  Br P kl n B ops k L l obs E H K:=by
 intro hB hobs listed hD hk h2 h3;refine⟨v,.inr ⟨po,H',hr hB,fun e he hna=>?_,h hB hobs _ (hD.set hk) h3⟩⟩;obtain⟨e',he',rfl⟩:=mem_map.1 he;rw[all_eq_true]at h2;have h4:=h2 e'.k (mem_map.2 ⟨e',he',rfl⟩);simp only at hna;rw[hna,Bool.false_or]at h4;exact hobs e' he' po H' (J1 ha e' he' h4)
theorem Br.skip{k:Nat}{v:Va}{L:List Nat}(hr:B.G0.length=kl.length->Rdr P kl n B ops k E v H)(h:Dr P kl n B ops l obs (eB E (ga ops k) v) H K) :
  Br P kl n B ops k L l obs E H K:=by
 intro hB hobs listed hD hk h2 h3;exact⟨v,.inl ⟨hr hB,h hB hobs _ (hD.set hk) h3⟩⟩
theorem cn{k:Nat}{L:List Nat}(h:Br P kl n B ops k L l obs E H K):Dr P kl n B ops (.ef k L l) obs E H K:=by
 intro hB hobs listed hD hp;simp only[g4,Bool.and_eq_true,beq_iff_eq]at hp;obtain⟨⟨h1,h2⟩,h3⟩:=hp
 have hk:k∈Region.ready .any ops listed:=by rw[h1];simp
 refine⟨fun e=>(by rw[h1]at e;cases e),fun i hi=>?_⟩;rw[h1]at hi
 obtain rfl:i=k:=by simpa using hi
 exact h hB hobs listed hD hk h2 h3
theorem Dr.fk{k k':Nat}{L L':List Nat}{l':Plan}(h:Br P kl n B ops k L l obs E H K)(h':Br P kl n B ops k' L' l' obs E H K):Dr P kl n B ops (.fk k L l k' L' l') obs E H K:=by
 intro hB hobs listed hD hp;simp only[g4,Bool.and_eq_true,beq_iff_eq]at hp;obtain⟨⟨⟨⟨⟨⟨h1,hc⟩,h2⟩,h2'⟩,hl⟩,h3⟩,h3'⟩:=hp
 have hk:k∈Region.ready .any ops listed:=by simpa using hc
 refine⟨fun e=>(by rw[e]at hk;cases hk),fun i hi=>?_⟩;have hik:=all_eq_true.1 h1 i hi;simp only[Bool.or_eq_true,beq_iff_eq]at hik
 rcases hik with rfl|rfl
 .exact h hB hobs listed hD hi h2 h3
 .have:=h' hB hobs listed hD hi h2' h3'
  rw[hl]at this;exact this
theorem Dr.f3{k k' j:Nat}{L L' M:List Nat}{l' m:Plan}(h:Br P kl n B ops k L l obs E H K)(h':Br P kl n B ops k' L' l' obs E H K)(h'':Br P kl n B ops j M m obs E H K):Dr P kl n B ops (.f3 k L l k' L' l' j M m) obs E H K:=by
 intro hB hobs listed hD hp;simp only[g4,Bool.and_eq_true,beq_iff_eq]at hp;obtain⟨⟨⟨⟨⟨⟨⟨⟨⟨h1,hc⟩,h2⟩,h2'⟩,h2''⟩,hl⟩,hm⟩,h3⟩,h3'⟩,h3''⟩:=hp
 have hk:k∈Region.ready .any ops listed:=by simpa using hc
 refine⟨fun e=>(by rw[e]at hk;cases hk),fun i hi=>?_⟩;have hik:=all_eq_true.1 h1 i hi;simp only[Bool.or_eq_true,beq_iff_eq]at hik
 rcases hik with rfl|rfl|rfl
 .exact h hB hobs listed hD hi h2 h3
 .have:=h' hB hobs listed hD hi h2' h3'
  rw[hl]at this;exact this
 .have:=h'' hB hobs listed hD hi h2'' h3''
  rw[hm]at this;exact this
theorem Dr.eff{k:Nat}{v:Va}{po:Option (Nat->Bool)}{H':List Ob}{L:List Nat}(hr:B.G0.length=kl.length->Efr P kl n B ops k E v po H H')(ha:nF L po H' obs)(h:Dr P kl n B ops l obs (eB (pE po E) (ga ops k) v) H' K) :
  Dr P kl n B ops (.ef k L l) obs E H K:=cn (Br.eff hr ha h)

theorem db{id:Nat}{os:List Oper}{Q:Qt}(plan:Plan)(hm:P.follows .mixedOrders=true)(hl:plan.length=os.length)(hp:g4 os.toArray plan [] (Array.replicate os.length false)=true)
  (h:∀K:dY->List Ob->Prop,(∀E H,Q .normal E H->K E H)->Dr P kl n B os.toArray plan [] E H K):Wp P kl n B (.region id os.toArray true) Q E H:=by
 intro hB a w hR;refine wp_region_any hm ?_
 have hD:DC os.toArray (Array.replicate os.length false):=fun i hi=>by
  simp[Array.getD_eq_getD_getElem?,Array.getElem?_replicate]at hi
  split at hi <;> simp at hi
 have h1:=h (Q .normal) (fun _ _ h=>h) hB (fun _ he=>by cases he) _ hD hp;rw[hl]at h1;rw[show os.toArray.size=os.length by simp]
 exact cK _ h1 (hR.drew _ (Nat.le_succ _)) fun E' H' a' w' h1 h2=>⟨E',H',h1,h2⟩

theorem xK{E':dY}{k j:Nat}{o:Oper}{want:Bool}(hk:ops[k]?=some o)(hg:o.guard=some (j,want))(h:Agree (looks ops k) E E'):ib ops.toList E' j want=ib ops.toList E j want:=by
 unfold ib;rw[Array.getElem?_toList]
 cases hj:ops[j]? with
 |none=>rfl
 |some oj =>
  simp only
  cases hd:oj.dst with
  |none=>rfl
  |some d =>
   have:eu E (.tmp d)=eu E' (.tmp d):=h _ (by simp[looks,hk,hg,hj,hd]);simp only[eu]at this;simp only[this]
theorem rQ{k:Nat}{o:Oper}{E':dY}(hk:ops[k]?=some o)(h:Agree (looks ops k) E E'):Agree o.op.operands.toList E E':=fun x hx=>h x (by simp only[looks,hk,mem_append];exact .inl hx)

theorem lW{k:Nat}{o:Oper}(hk:ops[k]?=some o)(hg:o.guard=none)(hd:fz n o.dst)(hok:(eY P true E H o.op).ok):Rdr P kl n B ops k E (eY P true E H o.op).v H:=by
 intro E' hE' a w Q K' hR hK;rw[Kn o.op (rQ hk hE')]at hok hK
 have hdd:ga ops k=o.dst:=by simp[ga,hk]
 rw[hdd]at hK;unfold wpOp;simp only[hk];rw[if_pos (by simp[Region.wanted,hg])];refine .inl ?_;obtain⟨Kk,G,hX,hS,hE,hdf,hn,hkp⟩:=hR;obtain⟨c,hr,hv⟩:=FR (P:=P) hS hE rfl o hok;unfold Oper.wp;rw[hr];have hRV:RelV (cx P kl n B) E' H c (eY P true E' H o.op).v a w:=⟨Kk,G,hX,hS,hE,hdf,hn,hkp,hv⟩;exact hK _ _ (hRV.put o.dst (zM hd))
theorem Kf{k:Nat}{o:Oper}{j:Nat}{want g:Bool}(hk:ops[k]?=some o)(hg:o.guard=some (j,want))(hb:ib ops.toList E j want=some g)(hd:fz n o.dst)(hok:g=true->(eY P g E H o.op).ok) :
  Rdr P kl n B ops k E (.cnd g (eY P g E H o.op).v) H:=by
 intro E' hE' a w Q K' hR hK;have hc:=Kn (P:=P) (g:=g) (H:=H) o.op (rQ hk hE');rw[hc]at hok;rw[<-xK hk hg hE']at hb
 have hdd:ga ops k=o.dst:=by simp[ga,hk]
 rw[hdd,hc]at hK;have hw:=nK hR hg hb;unfold wpOp;simp only[hk];have hR':=hR;obtain⟨Kk,G,hX,hS,hE,hdf,hn,hkp⟩:=hR'
 cases g with
 |true =>
  rw[if_pos hw];refine .inl ?_;obtain⟨c,hr,hv⟩:=FR (P:=P) hS hE rfl o (hok rfl);unfold Oper.wp;rw[hr];have hRV:RelV (cx P kl n B) E' H c (.cnd true (eY P true E' H o.op).v) a w:=⟨Kk,G,hX,hS,hE,hdf,hn,hkp,by simp only[VR];exact⟨fun _=>hv,fun e=>Bool.noConfusion e⟩⟩;exact hK _ _ (hRV.put o.dst (zM hd))
 |false =>
  rw[if_neg (by rw[hw];simp)];have hRV:RelV (cx P kl n B) E' H undef (.cnd false (eY P false E' H o.op).v) a w:=⟨Kk,G,hX,hS,hE,hdf,hn,hkp,by simp[VR]⟩;exact hK _ _ (hRV.put o.dst (zM hd))
theorem ua{k:Nat}{o:Oper}(hk:ops[k]?=some o)(hg:o.guard=none)(hd:fz n o.dst)(hok:(fH P (en kl) E H o.op).ok):Efr P kl n B ops k E (fH P (en kl) E H o.op).v (iJ P E H o.op) H (fH P (en kl) E H o.op).H:=by
 intro E' hE' a w Q K' hR hK;obtain⟨c1,c2,c3,c4⟩:=JR (P:=P) (H:=H) (kp:=en kl) o.op (rQ hk hE')
 have hok':(fH P (en kl) E' H o.op).ok:=by rw[c3];exact hok
 have hdd:ga ops k=o.dst:=by simp[ga,hk]
 rw[hdd]at hK;unfold wpOp;simp only[hk];rw[if_pos (by simp[Region.wanted,hg])];refine .inl ?_;obtain⟨c,w',hr,hR'⟩:=oA (cx P kl n B) E' H o hok' a w hR
 have fin:Rel (cx P kl n B) (eB (pE (iJ P E H o.op) E') o.dst (fH P (en kl) E H o.op).v) (fH P (en kl) E H o.op).H (a.put o.dst c) w':=by
  have:=hR'.put o.dst (zM hd);simp only[c1,c2]at this
  exact this.ext fun m=>by simp only[yE,iD];rw[c4 hok m]
 unfold Oper.wp
 rcases hr with hr|⟨hr,rfl⟩
 .rw[hr];exact hK _ _ fin
 .rw[hr];exact hK _ _ fin
theorem pK{k:Nat}{o:Oper}{j:Nat}{want:Bool}(hk:ops[k]?=some o)(hg:o.guard=some (j,want))(hb:ib ops.toList E j want=some true)(hd:fz n o.dst)(hok:(fH P (en kl) E H o.op).ok):Efr P kl n B ops k E (.cnd true (fH P (en kl) E H o.op).v) (iJ P E H o.op) H (fH P (en kl) E H o.op).H:=by
 intro E' hE' a w Q K' hR hK;obtain⟨c1,c2,c3,c4⟩:=JR (P:=P) (H:=H) (kp:=en kl) o.op (rQ hk hE')
 have hok':(fH P (en kl) E' H o.op).ok:=by rw[c3];exact hok
 have hdd:ga ops k=o.dst:=by simp[ga,hk]
 rw[hdd]at hK;unfold wpOp;simp only[hk];rw[<-xK hk hg hE']at hb;rw[if_pos (nK hR hg hb)];refine .inl ?_;obtain⟨c,w',hr,hR'⟩:=oA (cx P kl n B) E' H o hok' a w hR
 have fin:Rel (cx P kl n B) (eB (pE (iJ P E H o.op) E') o.dst (.cnd true (fH P (en kl) E H o.op).v)) (fH P (en kl) E H o.op).H (a.put o.dst c) w':=by
  have hRc:RelV (cx P kl n B) (fH P (en kl) E' H o.op).E (fH P (en kl) E' H o.op).H c (.cnd true (fH P (en kl) E' H o.op).v) a w':=by
   obtain⟨Kk,G,q1,q2,q3,q4,q5,q6,q7⟩:=hR';exact⟨Kk,G,q1,q2,q3,q4,q5,q6,by simp only[VR];exact⟨fun _=>q7,fun e=>Bool.noConfusion e⟩⟩
  have:=hRc.put o.dst (zM hd);simp only[c1,c2]at this
  exact this.ext fun m=>by simp only[yE,iD];rw[c4 hok m]
 unfold Oper.wp
 rcases hr with hr|⟨hr,rfl⟩
 .rw[hr];exact hK _ _ fin
 .rw[hr];exact hK _ _ fin
end

def gn:Option (Nat×Bool)->Bool->Va->Va
 |none,_,v=>v
 |some _,g,v=>.cnd g v
def pw(ops:List Oper)(o:Oper):List Operand:=o.op.operands.toList++match o.guard with
 |some (j,_)=>match ops[j]? with
  |some oj=>match oj.dst with
   |some d=>[.tmp d]
   |none=>[]
  |none=>[]
 |none=>[]
def FE(ops:List Oper)(o:Oper)(S:dY)(v:Va):Option (Nat->Bool)->Prop
 |none=>True
 |some p=>v.prune p=v/\yl p S (pw ops o)
def s3(P:Program)(ops:List Oper)(o:Oper)(g:Bool)(E:dY)(v:Va)(po:Option (Nat->Bool))(H':List Ob):Prop :=
 (g=true->(eY P g E H' o.op).ok)/\gn o.guard g (eY P g E H' o.op).v=v/\FE ops o E v po
def ko(ops:List Oper)(o:Oper)(E:dY)(v:Va)(av args:List Va)(po:Option (Nat->Bool))(H':List Ob):Prop :=
 g7 H' av=some args/\FE ops o E v po

structure Aw where
 obs:List En
 E:dY
 H:List Ob
 ok:Prop
def mS(P:Program)(n:Nat)(ops:List Oper)(k:Nat)(o:Oper)(g:Bool)(aw:Aw)(r:Pv):Aw :=
 ⟨⟨k,aw.E,gn o.guard g r.v,s3 P ops o g aw.E (gn o.guard g r.v)⟩::aw.obs,eB aw.E o.dst (gn o.guard g r.v),aw.H,aw.ok/\fz n o.dst/\(g=true->r.ok)⟩
def ul(n:Nat)(o:Oper)(L:List Nat)(po:Option (Nat->Bool))(aw:Aw)(r:Ev):Aw :=
 ⟨aw.obs,eB (pE po aw.E) o.dst r.v,r.H,aw.ok/\fz n o.dst/\r.ok/\nF L po r.H aw.obs⟩
def mT(n:Nat)(o:Oper)(L:List Nat)(po:Option (Nat->Bool))(aw:Aw)(r:Ev):Aw :=
 ⟨aw.obs,eB (pE po aw.E) o.dst (.cnd true r.v),r.H,aw.ok/\fz n o.dst/\r.ok/\nF L po r.H aw.obs⟩
def uk(n:Nat)(o:Oper)(aw:Aw):Aw:=⟨aw.obs,eB aw.E o.dst (.cnd false .top),aw.H,aw.ok/\fz n o.dst⟩
inductive Rd where
 |done (aw:Aw)
 |stop (l:Plan) (aw:Aw)
def uJ:Rd:=.done ⟨[],[],[],False⟩
def fw(P:Program)(kl:List Bool)(n:Nat)(ops:List Oper):Plan->Aw->Rd
 |.nil,aw=>.done aw
 |.fk k L l k' L' l',aw=>.stop (.fk k L l k' L' l') aw
 |.f3 k L l k' L' l' j M m,aw=>.stop (.f3 k L l k' L' l' j M m) aw
 |.rd k l,aw=>match ops[k]? with
  |some o=>if kD P o=true then .stop (.rd k l) aw else match o.guard with
   |none=>fw P kl n ops l (mS P n ops k o true aw (eY P true aw.E aw.H o.op))
   |some (j,want)=>match ib ops aw.E j want with
    |some g=>fw P kl n ops l (mS P n ops k o g aw (eY P g aw.E aw.H o.op))
    |none=>uJ
  |none=>uJ
 |.ef k L l,aw=>match ops[k]? with
  |some o=>if kD P o=true then .stop (.ef k L l) aw else match o.guard with
   |none=>fw P kl n ops l (ul n o L (iJ P aw.E aw.H o.op) aw (fH P (en kl) aw.E aw.H o.op))
   |some (j,want)=>match ib ops aw.E j want with
    |some true=>fw P kl n ops l (mT n o L (iJ P aw.E aw.H o.op) aw (fH P (en kl) aw.E aw.H o.op))
    |some false=>fw P kl n ops l (uk n o aw)
    |none=>uJ
  |none=>uJ
def gy(P:Program)(kl:List Bool)(n:Nat)(B:Bs)(ops:Array Oper)(K:dY->List Ob->Prop):Rd->Prop
 |.done aw=>aw.ok/\K aw.E aw.H
 |.stop l aw=>aw.ok/\Dr P kl n B ops l aw.obs aw.E aw.H K

section
variable {P:Program} {kl:List Bool} {n:Nat} {B:Bs} {ops:List Oper} {K:dY->List Ob->Prop} {l:Plan} {obs:List En} {E:dY} {H:List Ob}

theorem tr{k:Nat}{o:Oper}(hk:ops[k]?=some o):looks ops.toArray k=pw ops o:=by
 unfold looks pw;simp only[getElem?_toArray,hk]
 cases o.guard with
 |none=>rfl
 |some gw =>
  obtain⟨j,want⟩:=gw;simp only
  cases ops[j]? with
  |none=>rfl
  |some oj =>
   simp only[Option.bind_some]
   first
    |done
    |(cases oj.dst <;> rfl)
theorem jP{p:Nat->Bool}{S:dY}:∀{xs:List Operand},yl p S xs->Agree xs S (fF p S)
 |[],_,x,hx=>by cases hx
 |y::ys,h,x,hx=>by
  rcases mem_cons.1 hx with rfl|hx
  .cases x with
   |tmp t=>simp only[eu,qh];exact h.1.symm
   |_=>rfl
  .have:yl p S ys:=by cases y <;> first|exact h.2|exact h
   exact jP this x hx
theorem k5{k:Nat}{o:Oper}(hk:ops[k]?=some o){S:dY}{v:Va}{po:Option (Nat->Bool)}(h:FE ops o S v po):kq po v=v/\Agree (looks ops.toArray k) S (pE po S):=by
 cases po with
 |none=>exact⟨rfl,Agree.refl _ _⟩
 |some p=>exact⟨h.1,by rw[tr hk];exact jP h.2⟩
theorem vS{o:Oper}(hg:o.guard=none)(g:Bool)(v:Va):gn o.guard g v=v:=by rw[hg];rfl
theorem rZ{o:Oper}{x:Nat×Bool}(hg:o.guard=some x)(g:Bool)(v:Va):gn o.guard g v=.cnd g v:=by rw[hg];rfl

theorem rH{os:List Oper}:∀{l:Plan} {aw:Aw},gy P kl n B os.toArray K (fw P kl n ops l aw)->aw.ok
 |.nil,aw,h=>h.1
 |.fk _ _ _ _ _ _,aw,h=>h.1
 |.f3 _ _ _ _ _ _ _ _ _,aw,h=>h.1
 |.rd k l,aw,h=>by
  unfold fw at h;split at h
  .split at h
   .exact h.1
   .split at h
    .exact(rH h).1
    .split at h
     .exact(rH h).1
     .exact h.1.elim
  .exact h.1.elim
 |.ef k L l,aw,h=>by
  unfold fw at h;split at h
  .split at h
   .exact h.1
   .split at h
    .exact(rH h).1
    .split at h
     .exact(rH h).1
     .exact(rH h).1
     .exact h.1.elim
  .exact h.1.elim
theorem fU{k:Nat}{o:Oper}(hk:ops[k]?=some o):ops.toArray[k]?=some o:=by rw[getElem?_toArray];exact hk
theorem g6{k:Nat}{o:Oper}(hk:ops[k]?=some o):ga ops.toArray k=o.dst:=by simp[ga,hk]
theorem lV{k:Nat}{o:Oper}{j:Nat}{want:Bool}{v:Va}(hk:ops[k]?=some o)(hg:o.guard=some (j,want))(hb:ib ops E j want=some false)(hd:fz n o.dst):Rdr P kl n B ops.toArray k E (.cnd false v) H:=by
 intro E' hE' a w Q K' hR hKK;rw[g6 hk]at hKK
 have hb':ib ops.toArray.toList E j want=some false:=by simpa using hb
 rw[<-xK (fU hk) hg hE']at hb';have hw:=nK hR hg hb';unfold wpOp;simp only[fU hk];rw[if_neg (by rw[hw];simp)];obtain⟨Kk,G,hX,hS,hE,hdf,hn,hkp⟩:=hR;exact hKK _ _ (RelV.put (C:=cx P kl n B) (v:=.cnd false v) ⟨Kk,G,hX,hS,hE,hdf,hn,hkp,by simp[VR]⟩ o.dst (zM hd))
theorem Dr.run:∀{l:Plan} {aw:Aw},gy P kl n B ops.toArray K (fw P kl n ops l aw)->Dr P kl n B ops.toArray l aw.obs aw.E aw.H K
 |.nil,aw,h=>Dr.nil h.2
 |.fk _ _ _ _ _ _,aw,h=>h.2
 |.f3 _ _ _ _ _ _ _ _ _,aw,h=>h.2
 |.rd k l,aw,h=>by
  unfold fw at h;split at h
  rotate_left
  .exact h.1.elim
  rename_i o hk
  split at h
  .exact h.2
  split at h
  .rename_i hg
   have hok:=(rH h).2;have h':=Dr.run h;simp only[mS]at h';rw[<-g6 hk]at h';refine Dr.read (fun _=>?_) (fun _=>?_) h'
   .rw[vS hg];exact lW (fU hk) hg hok.1 (hok.2 rfl)
   .intro po H' hre
    obtain⟨r1,r2,r3⟩:=hre;refine⟨?_,k5 hk r3⟩;simp only;rw[vS hg,vS hg]at r2;rw[vS hg,<-r2];exact lW (fU hk) hg hok.1 (r1 rfl)
  .rename_i j want hg
   split at h
   rotate_left
   .exact h.1.elim
   rename_i g hb
   have hok:=(rH h).2;have h':=Dr.run h;simp only[mS]at h';rw[<-g6 hk]at h';refine Dr.read (fun _=>?_) (fun _=>?_) h'
   .rw[rZ hg];exact Kf (fU hk) hg hb hok.1 hok.2
   .intro po H' hre
    obtain⟨r1,r2,r3⟩:=hre;refine⟨?_,k5 hk r3⟩;simp only;rw[rZ hg,rZ hg]at r2;rw[rZ hg,<-r2];exact Kf (fU hk) hg hb hok.1 r1
 |.ef k L l,aw,h=>by
  unfold fw at h;split at h
  rotate_left
  .exact h.1.elim
  rename_i o hk
  split at h
  .exact h.2
  split at h
  .rename_i hg
   have hok:=(rH h).2;have h':=Dr.run h;simp only[ul]at h';rw[<-g6 hk]at h';exact Dr.eff (fun _=>ua (fU hk) hg hok.1 hok.2.1) hok.2.2 h'
  .rename_i j want hg
   split at h
   .rename_i hb
    have hok:=(rH h).2;have h':=Dr.run h;simp only[mT]at h';rw[<-g6 hk]at h';exact Dr.eff (fun _=>pK (fU hk) hg hb hok.1 hok.2.1) hok.2.2 h'
   .rename_i hb
    have hok:=(rH h).2;have h':=Dr.run h;simp only[uk]at h';rw[<-g6 hk]at h';exact cn (Br.skip (fun _=>lV hk hg hb hok) h')
   .exact h.1.elim
theorem Br.run{k:Nat}{L:List Nat}{o:Oper}(hk:Is ops[k]? (some o))(hg:Is o.guard none)(h:gy P kl n B ops.toArray K (fw P kl n ops l (ul n o L (iJ P E H o.op) ⟨obs,E,H,True⟩ (fH P (en kl) E H o.op)))):Br P kl n B ops.toArray k L l obs E H K:=by
 unfold Is at *;have hok:=(rH h).2;have h':=Dr.run h;simp only[ul]at h';rw[<-g6 hk]at h';exact Br.eff (fun _=>ua (fU hk) hg hok.1 hok.2.1) hok.2.2 h'
theorem cB{id:Nat}{os:List Oper}{y:Code}{Q:Qt}(plan:Plan)(hm:P.follows .mixedOrders=true)(hl:plan.length=os.length)(hp:g4 os.toArray plan [] (Array.replicate os.length false)=true)
  (h:∀K:dY->List Ob->Prop,(∀E H,Wp P kl n B y Q E H->K E H)->gy P kl n B os.toArray K (fw P kl n os plan ⟨[],E,H,True⟩)):Wp P kl n B (.seq (.region id os.toArray true) y) Q E H :=
 Wp.seq fun _ hK=>db plan hm hl hp fun K' hK'=>Dr.run (h K' fun E' H' hy=>hK' E' H' (hK E' H' hy))

theorem mY{o:Oper}{c:Call}{fop:Operand}{f:FuncId}{caps args:List Va}{v:Va}(hs:Does P f args [] fun r X=>r=v/\X=[])(ho:o.op=.call c)(hc:c.callee=.value fop)
  (hok:opOk true E fop/\allOk true E c.args.toList) (hf:opnd E fop=.fn f caps) (hp:g7 H (opnds E c.args.toList++caps)=some args) (hflat:v.flat=true) {a:Act} {w:World} {Q:Exit->Act->World->Prop} {K':Act->World->Prop} (hR:Rel (cx P kl n B) E H a w)
  (hK:∀c' w',RelV (cx P kl n B) E H c' v a w'->K' (a.put o.dst c') w'):o.wp P a w K' Q:=by
 obtain⟨Kk,G,hX,hS,hE,hdf,hn,hkp⟩:=hR;have hvf:=zw hE rfl fop hok.1;rw[hf]at hvf;simp only[VR]at hvf;obtain⟨cs,hcs,hcv⟩:=hvf;have hargs:=vf hE rfl c.args.toList hok.2;have hall:=vM hS hp (hargs.append hcv);unfold Oper.wp;rw[BM ho hc hcs hs.1];simp only[Oper.upon];refine(hs.2 (rN Kk G) [] w _ (St.nil (FZ hS) (hS.tb.mono ⟨fun _ h=>.inl h,fun _ _=>rfl⟩)) hall).mono ?_;rintro e w' ⟨c',r,X',K1,G1,rfl,⟨rfl,rfl⟩,hX1,hS1,hv,_⟩
 have fr:∀b,b<w.heap.size->w'.heap[b]?=w.heap[b]?:=fun b hb=>hX1.frame b hb (fun o g0 h=>by simp at h)
 have hX2:Ext (en kl) B.K0 B.G0 B.w0 Kk G w':=by
  refine hX.trans { Ext.refl (en kl) Kk G w with
   os:=hX1.os,tape:=hX1.tape,output:=hX1.output,size:=hX1.size,frame:=fun b hb _=>fr b hb }
 exact hK c' w' ⟨Kk,G,hX2,hS.after hX1,fun m=>VR.keep (f:=fun _=>true) ⟨fun _ h=>h,fun b hb=>fr b (hS.kb b hb)⟩ (Mg.refl _ G) _ _ (Va.all_true _) (hE m),hdf,hn,hkp,CJ hflat hv⟩
theorem lX{k:Nat}{o:Oper}{c:Call}{fop:Operand}{f:FuncId}{caps args:List Va}{g:Bool}{v:Va}(hs:g=true->Does P f args [] fun r X=>r=v/\X=[])(hk:ops[k]?=some o)(ho:o.op=.call c)(hc:c.callee=.value fop)
  (hg:match o.guard with|none=>g=true|some (j,want)=>ib ops E j want=some g) (hd:fz n o.dst) (hok:opOk g E fop/\allOk g E c.args.toList) (hf:opnd E fop=.fn f caps) (hp:g7 H (opnds E c.args.toList++caps)=some args) (hflat:v.flat=true) :
  Rdr P kl n B ops.toArray k E (gn o.guard g v) H:=by
 intro E' hE' a w Q K' hR hK;have hop:=rQ (fU hk) hE';rw[ho]at hop;have hfo:eu E fop=eu E' fop:=hop fop (by simp[Op.operands,Call.operands,hc])
 have ha:Agree c.args.toList E E':=fun x hx=>hop x (by simp only[Op.operands,Call.operands,Array.toList_append,mem_append];exact .inr hx)
 rw[Agree.opOk hfo,Agree.allOk ha]at hok;rw[Agree.opnd hfo]at hf;rw[Agree.opnds ha]at hp;rw[g6 hk]at hK;unfold wpOp;simp only[fU hk]
 cases hgd:o.guard with
 |none =>
  rw[hgd]at hg hK;subst hg;rw[if_pos (by simp[Region.wanted,hgd])];exact .inl (mY (hs rfl) ho hc hok hf hp hflat hR fun c' w' hRV=>hK _ _ (hRV.put o.dst (zM hd)))
 |some gw =>
  obtain⟨j,want⟩:=gw;rw[hgd]at hg hK;simp only at hg
  have hb:ib ops.toArray.toList E j want=some g:=by simpa using hg
  rw[<-xK (fU hk) hgd hE']at hb;have hw:=nK hR hgd hb
  cases g with
  |true =>
   rw[if_pos hw]
   exact .inl (mY (hs rfl) ho hc hok hf hp hflat hR fun c' w' hRV=>hK _ _ (RelV.put (v:=.cnd true v) (by
    obtain⟨Kk,G,h1,h2,h3,h4,h5,h6,h7⟩:=hRV
    exact⟨Kk,G,h1,h2,h3,h4,h5,h6,by simp only[VR];exact⟨fun _=>h7,fun e=>Bool.noConfusion e⟩⟩) o.dst (zM hd)))
  |false =>
   rw[if_neg (by rw[hw];simp)];obtain⟨Kk,G,hX,hS,hE,hdf,hn,hkp⟩:=hR;exact hK _ _ (RelV.put (C:=cx P kl n B) (v:=.cnd false v) ⟨Kk,G,hX,hS,hE,hdf,hn,hkp,by simp[VR]⟩ o.dst (zM hd))

def gc(E:dY)(o:Oper):Option (FuncId×List Va):=match o.op with
 |.call c=>match c.callee with
  |.value fop=>match opnd E fop with
   |.fn f caps=>some (f,opnds E c.args.toList++caps)
   |_=>none
  |_=>none
 |_=>none
def fM(ops:List Oper)(E:dY)(o:Oper):Option Bool:=match o.guard with
 |none=>some true
 |some (j,want)=>ib ops E j want
theorem Dr.callF{k:Nat}{f:FuncId}{av args:List Va}{g:Bool}{o:Oper}{v:Va}(hs:g=true->Does P f args [] fun r X=>r=v/\X=[])(hk:Is ops[k]? (some o))(ha:Is (gc E o) (some (f,av)))(hg:Is (fM ops E o) (some g))(hp:Is (g7 H av) (some args))(hok:fX n g E o)(hf:Is v.flat true)
  (cont:gy P kl n B ops.toArray K (fw P kl n ops l ⟨⟨k,E,gn o.guard g v,ko ops o E (gn o.guard g v) av args⟩::obs,eB E o.dst (gn o.guard g v),H,True⟩)):Dr P kl n B ops.toArray (.rd k l) obs E H K:=by
 unfold Is at *;unfold gc at ha;split at ha
 rotate_left
 .cases ha
 rename_i c h1
 split at ha
 rotate_left
 .cases ha
 rename_i fop h3
 split at ha
 rotate_left
 .cases ha
 rename_i f' caps h4
 cases ha;obtain⟨hd,hk1,hk2⟩:=ld hok h1 h3
 have hg':match o.guard with|none=>g=true|some (j,want)=>ib ops E j want=some g:=by
  unfold fM at hg
  revert hg
  cases o.guard with
  |none=>exact fun hg=>(Option.some.inj hg).symm
  |some gw=>exact fun hg=>hg
 have h':=Dr.run cont;simp only at h';rw[<-g6 hk]at h';refine Dr.read (fun _=>lX hs hk h1 h3 hg' hd ⟨hk1,hk2⟩ h4 hp hf) (fun _=>?_) h';intro po H' hre;exact⟨lX hs hk h1 h3 hg' hd ⟨hk1,hk2⟩ h4 hre.1 hf,k5 hk hre.2⟩
end

attribute [go_sem] pl fw gy mS ul mT uk gn uJ nF s3 ko FE yl pw pE iJ nz ww gc fM g4 Op.operands

def EF(m:Nat)(Post:Va->List Ob->Prop)(r:Va)(X:List Ob):Prop :=
 fJ r r/\leH X X/\X.length=m/\r.all (fun o=>decide (o<m))=true/\hZ (fun o=>decide (o<m)) X=true/\Post r X
def retF(m:Nat)(kl:List Bool)(Post:Va->List Ob->Prop)(H:List Ob)(pv:Pv):Prop :=
 pv.ok/\kl.length<=m/\m<=H.length/\EF m Post (gh m H pv.v) (fR m H (H.take m))
theorem ki{P:Program}{rs:List ResultVar}{m:Nat}{kl:List Bool}{Post:Va->List Ob->Prop}{E:dY}{H:List Ob}(h:retF m kl Post H (fQ P E H rs)):iP P rs m kl Post E H:=by
 obtain⟨h1,h2,h3,h4,h5,h6,h7,h8,h9⟩:=h;exact⟨h1,h2,h3,h7,h8,_,_,h4,h5,h6,h7,h8,h9⟩
section
variable {P:Program} {kl:List Bool} {n:Nat} {B:Bs} {rs:List ResultVar} {m:Nat} {Post:Va->List Ob->Prop} {E:dY} {H:List Ob}
theorem Wp.retF(h:Vc.retF m kl Post H (fQ P E H rs)):Wp P kl n B .ret (lU P rs m kl Post) E H:=Wp.ret (ki h)
theorem vg(h:Vc.retF m kl Post H (fQ P E H rs)):lU P rs m kl Post .ret E H:=ki h
theorem zq(h:Vc.retF m kl Post H (fQ P E H rs)):lU P rs m kl Post .normal E H:=ki h
end
section
variable {P:Program} {kl:List Bool} {n:Nat} {B:Bs} {K:dY->List Ob->Prop} {E:dY} {H:List Ob} {ops:Array Oper}
theorem cP{o:Oper}{l:List Oper}{f:FuncId}{av args:List Va}{g:Bool}{v:Va}(hs:g=true->Does P f args [] fun r X=>r=v/\X=[])(ha:Is (gc E o) (some (f,av)))(hb:Is (fM ops.toList E o) (some g))(hp:Is (g7 H av) (some args))(hok:fX n g E o)(hf:Is v.flat true)
  (cont:(g=true->v.ok)->eS P kl n B ops K (eL P kl n ops.toList l ⟨eB E o.dst (gn o.guard g v),H,True⟩)):Rg P kl n B ops (o::l) E H K:=by
 unfold Is gc at ha;unfold Is fM at hb;split at ha
 rotate_left
 .cases ha
 rename_i c h1
 split at ha
 rotate_left
 .cases ha
 rename_i fop h3
 split at ha
 rotate_left
 .cases ha
 rename_i f' caps h4
 cases ha;obtain⟨hd,hk⟩:=ld hok h1 h3
 cases hg:o.guard with
 |none =>
  rw[hg]at hb;obtain rfl:true=g:=Option.some.inj hb;have hs:=hs rfl
  refine de hs h1 hg h3 hd hk h4 hp fun r X' ⟨hr,_⟩ hv=>⟨hr ▸ hf,?_⟩
  have c1:=cont fun _=>hr ▸ hv
  rw[vS hg]at c1;exact hr ▸ Rg.run c1
 |some gw =>
  obtain⟨j,want⟩:=gw;rw[hg]at hb
  refine Rg.callG v hs h1 hg hb h3 hd hk h4 hp hf fun hv=>?_
  have c1:=cont hv;rw[rZ hg]at c1;exact Rg.run c1
end

section
variable {P:Program} {kl:List Bool} {n:Nat} {B:Bs} {ops:List Oper} {K:dY->List Ob->Prop} {l:Plan} {obs:List En} {E:dY} {H:List Ob}
theorem dV{k:Nat}{f:FuncId}{av args:List Va}{o:Oper}{v:Va}(hs:Does P f args [] fun r X=>r=v/\X=[])(hk:Is ops[k]? (some o))(ha:Is (gc E o) (some (f,av)))(hg:Is (fM ops E o) (some true))(hp:Is (g7 H av) (some args))(hok:fX n true E o)(hf:Is v.flat true)
  (cont:gy P kl n B ops.toArray K (fw P kl n ops l ⟨⟨k,E,gn o.guard true v,ko ops o E (gn o.guard true v) av args⟩::obs,eB E o.dst (gn o.guard true v),H,True⟩)):Dr P kl n B ops.toArray (.rd k l) obs E H K :=
 Dr.callF (fun _=>hs) hk ha hg hp hok hf cont
end

theorem nL{n:Int}(h1:-9223372036854775808<=n)(h2:n<=9223372036854775807):IntKind.i64.wrap n=n:=by
 simp only[IntKind.wrap,IntKind.bits,IntKind.signed];simp;omega
theorem Lq{n:Int}(h1:0<=n)(h2:n<=255):IntKind.u8.wrap n=n:=by
 simp only[IntKind.wrap,IntKind.bits,IntKind.signed];simp;omega
attribute [go_sem] EF retF Nat.le_refl Fits lo hi replicate_succ replicate_zero length_set contains_nil contains_cons Bool.or_false Bool.false_or eh
attribute [-go_sem] iP
end Go.Vc
