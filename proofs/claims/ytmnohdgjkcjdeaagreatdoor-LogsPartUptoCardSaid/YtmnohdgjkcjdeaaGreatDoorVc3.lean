/- An abstract machine for the model: what it computes on, its operations, the walk of a body, and that all of it is true of the model (part 3). -/
import Derived.Test.YtmnohdgjkcjdeaaGreatDoorVc2
import Derived.Lib.AppendIntMem
import Derived.Lib.AtoiBound
import Derived.Lib.ItoaLen
import Derived.Lib.SliceRun
import Derived.Shelf.SlIter.Nil
import Derived.Shelf.SortM.Plain
import Derived.Shelf.SortM.SortNone
import Derived.Shelf.Spec.SlicesGrow
import Derived.Shelf.Strconv.Atoi
import Derived.Shelf.Strconv.AtoiAll
import Derived.Shelf.Strconv.AtoiErr
import Derived.Shelf.Strconv.Itoa3
import Derived.Shelf.Strings.Builder1
import Derived.Shelf.Strings.SlTrimAscii
/- Ranges over maps: in whatever order. -/
set_option linter.unusedSectionVars false
namespace Go.Vc
variable [Tabs]
section
variable {α β S:Type}
def left:List Nat→List Nat→List α→List α
 | b::bs,seen,x::l=>bif seen.contains b then left bs seen l else x::left bs seen l
 | _,_,_=>[]
end
section
variable {P:Program} {kl:List Bool} {n:Nat} {B:Bs} {Q:Qt} {E:Env} {H:List Ob}
end
def keyVa:Dt→Va
 | .a ds=>.agg (ds.map .p)
 | .b x=>.p (.b x)
 | .i k x=>.p (.i k x)
 | .s x=>.p (.s x)
 | .l x=>.p (.l x)
attribute [go_sem] keyVa
section
variable {K:Nat→Prop} {G:List Gh} {H:List Ob} {w:World}
end
section
variable {P:Program} {kl:List Bool} {n:Nat} {B:Bs} {ops:Array Oper} {K:Env→List Ob→Prop} {E:Env} {H:List Ob}
end
section
variable {P:Program} {kl:List Bool} {n:Nat} {B:Bs} {Q:Qt} {E:Env} {H:List Ob}
end
section
variable {α β S:Type}
end
end Go.Vc
/- Two more operations as steps: whether a slice is nil (where nobody knows); a cut of a growing slice that is cleared. -/
set_option linter.unusedSectionVars false
namespace Go.Vc
variable [Tabs]
section
variable {P:Program} {kl:List Bool} {n:Nat} {B:Bs} {ops:Array Oper} {K:Env→List Ob→Prop} {E:Env} {H:List Ob}
theorem Rg.isnil {o:Oper} {l:List Oper} {t u:TypeId} {x:Operand} {rows:List (List Dt)} {e:TypeId} {esz eb:Nat} {ez:List Value} (ho:Is o.op (.binOp .eql t x (.const (.slice none 0 0)) u)) (hg:Is o.guard none) (hd:zc2 n o.dst) (hk:opOk true E x) (hx:Is (opnd E x) (.p (.l rows))) (ht:Is (zM P t) (.slice e esz eb ez))
  (cont:∀ b:Bool,(b=true→rows=[])→zfy P kl n B ops K (zj0 P kl n ops.toList l ⟨zdi E o.dst (.p (.b b)),H,True⟩)):Rg P kl n B ops (o::l) E H K:=by
 unfold Is at *
 refine Rg.any hg hd (I:=fun v H'=>H'=H∧∃ b:Bool,(b=true→rows=[])∧v=.p (.b b)) ?_ (by rintro v H' ⟨rfl,b,h1,rfl⟩; exact cont b h1)
 intro a w hR
 obtain ⟨Kk,G,hX,hS,hE,hdf,hn,hkp⟩:=hR
 have hvx:=zu hE rfl x hk
 rw [hx] at hvx
 simp only [VR,DR] at hvx
 obtain ⟨ti,ht',hk'⟩:=zy ht (by simp)
 obtain ⟨hu,_⟩:=zaW ht' hk'
 have key:∃ ad m cap,a.eval x=.slice ad m cap∧(ad.isNone=true→rows=[]):=by
  rcases hvx with ⟨⟨ad,h1⟩,h2⟩ | ⟨b,off,cap,cs,T,fr,sz,vs,h1,_⟩
  ·exact ⟨ad,0,0,h1,fun _=>h2⟩
  ·exact ⟨_,_,_,h1,fun h=>by simp at h⟩
 obtain ⟨ad,m,cap,hax,hnil⟩:=key
 refine ⟨.bool ad.isNone,w,_,H,?_,⟨rfl,ad.isNone,hnil,rfl⟩,Kk,G,hX,hS,hE,hdf,hn,hkp,by simp only [VR,DR]⟩
 have hr:(binOp .eql t (.slice ad m cap) (.slice none 0 0)).run P w=.ok (.bool ad.isNone) w:=Lib.run_eql_slice_nil w t e ad m cap 0 0 hu
 obtain ⟨dst,op,ty,pos,af,gd⟩:=o
 cases ho
 have hgd:=zlk (P:=P) (w:=w) .eql t x (.const (.slice none 0 0)) (.slice ad m cap) (.slice none 0 0) (by simp) (by simp)
 have:(do eqGuard .eql t x (.const (.slice none 0 0)) (a.eval x) (a.eval (.const (.slice none 0 0))); binOp .eql t (a.eval x) (a.eval (.const (.slice none 0 0))):Sem Value).run P w=.ok (.bool ad.isNone) w:=by
  rw [hax]
  show (do eqGuard .eql t x (.const (.slice none 0 0)) (.slice ad m cap) (.slice none 0 0); binOp .eql t (.slice ad m cap) (.slice none 0 0):Sem Value).run P w=_
  simp only [Sem.run_bind,hgd,Result.andThen_ok,hr]
 exact zgg this
end
def sortS (l:List (List UInt8)):List (List UInt8):=l.mergeSort fun x y=>decide (x≤y)
theorem sortS_length (l:List (List UInt8)):(sortS l).length=l.length:=by unfold sortS; simp
section
variable {P:Program} {kl:List Bool} {n:Nat} {B:Bs} {Q:Qt} {E:Env} {H:List Ob}
end
section
variable {P:Program} {kl:List Bool} {n:Nat} {B:Bs} {Q:Qt} {E:Env} {H:List Ob}
theorem Wp.reob {c:Code} (o:Nat) {x:Ob} (hk:kpf kl o=false) (hx:∀ K G (w:World) g,St K G H w→G[o]?=some g→ObR K w.heap G g x) (ho:o < H.length) (hc:Wp P kl n B c Q E (H.set o x)):Wp P kl n B c Q E H:=by
 intro hB a w hR
 obtain ⟨K,G,r1,hS,r3,r4,r5,r6⟩:=hR
 have hol:o < G.length:=by rw [hS.len]; exact ho
 have hS':St K G (H.set o x) w:=by
  refine ⟨by simp [hS.len],hS.kb,hS.gb,hS.inj,fun i g y hg hy=>?_,hS.tb⟩
  by_cases e:i=o
  ·subst e
   rw [List.getElem?_set_self ho] at hy
   cases hy
   exact hx K G w g hS hg
  ·rw [List.getElem?_set_ne (Ne.symm e)] at hy
   exact hS.ob i g y hg hy
 refine hc hB a w ⟨K,G,r1,hS',r3,r4,r5,fun y hy=>?_⟩
 have hyo:y ≠ o:=fun e=>by subst e; rw [show kpf kl y=true from hy] at hk; cases hk
 obtain ⟨z,hz,hkz⟩:=r6 y hy
 exact ⟨z,by rw [List.getElem?_set_ne (Ne.symm hyo)]; exact hz,hkz⟩
theorem Wp.toFix {c:Code} (o:Nat) {T:TypeId} {sz:Nat} {rows:List (List Dt)} (ho:Is (zcY H o) (.buf T sz rows)) (hk:kpf kl o=false) (hc:Wp P kl n B c Q E (H.set o (.fx T sz rows))):Wp P kl n B c Q E H:=by
 have hoH:=zI ho (by simp)
 exact Wp.reob o (x:=.fx T sz rows) hk (fun K G w g hS hg=>show ObR K w.heap G g (.buf T sz rows) from hS.ob o g _ hg hoH) (List.getElem?_eq_some_iff.1 hoH).1 hc
theorem Wp.toBuf {c:Code} (o:Nat) {T:TypeId} {sz:Nat} {rows:List (List Dt)} (ho:Is (zcY H o) (.fx T sz rows)) (hk:kpf kl o=false) (hc:Wp P kl n B c Q E (H.set o (.buf T sz rows))):Wp P kl n B c Q E H:=by
 have hoH:=zI ho (by simp)
 exact Wp.reob o (x:=.buf T sz rows) hk (fun K G w g hS hg=>show ObR K w.heap G g (.fx T sz rows) from hS.ob o g _ hg hoH) (List.getElem?_eq_some_iff.1 hoH).1 hc
end
section
variable {P:Program} {kl:List Bool} {n:Nat} {B:Bs} {Q:Qt} {E:Env} {H:List Ob}
theorem Wp.regionDQ {id:Nat} {os:List Oper} (plan:Plan) (hm:P.follows .mixedOrders=true) (hl:plan.length=os.length) (hp:zfk os.toArray plan [] (Array.replicate os.length false)=true)
  (h:Dr P kl n B os.toArray plan [] E H (Q .normal)):Wp P kl n B (.region id os.toArray true) Q E H:=by
 intro hB a w hR
 refine wp_region_any hm ?_
 have hD:DC os.toArray (Array.replicate os.length false):=fun i hi=>by
  simp [Array.getD_eq_getD_getElem?,Array.getElem?_replicate] at hi
  split at hi <;> simp at hi
 have h1:=h hB (fun _ he=>by cases he) _ hD hp
 rw [hl] at h1
 rw [show os.toArray.size=os.length by simp]
 exact AnyO.sound _ h1 (hR.drew _) fun E' H' a' w' h1 h2=>⟨E',H',h1,h2⟩
theorem Wp.seqDW {id:Nat} {os:List Oper} {y:Code} (plan:Plan) (hm:P.follows .mixedOrders=true) (hl:plan.length=os.length) (hp:zfk os.toArray plan [] (Array.replicate os.length false)=true)
  (h:∀ K:Env→List Ob→Prop,(∀ E H,Wp P kl n B y Q E H→K E H)→(∀ E H E' H',Weak kl E H E' H'→K E' H'→K E H)→zfW P kl n B os.toArray K (zhX P kl n os plan ⟨[],E,H,True⟩)):Wp P kl n B (.seq (.region id os.toArray true) y) Q E H :=
 Wp.seqW fun K hK hW=>Wp.regionDQ (Q:=zl K Q) plan hm hl hp (Dr.run (h K hK hW))
theorem Wp.regDW {id:Nat} {os:List Oper} (plan:Plan) (hm:P.follows .mixedOrders=true) (hl:plan.length=os.length) (hp:zfk os.toArray plan [] (Array.replicate os.length false)=true)
  (h:∀ K:Env→List Ob→Prop,(∀ E H,Q .normal E H→K E H)→(∀ E H E' H',Weak kl E H E' H'→K E' H'→K E H)→zfW P kl n B os.toArray K (zhX P kl n os plan ⟨[],E,H,True⟩)):Wp P kl n B (.region id os.toArray true) Q E H:=by
 let K:Env→List Ob→Prop:=fun E H=>B.G0.length=kl.length→∀ a w,Rel (cx P kl n B) E H a w→∃ E' H',Q .normal E' H'∧Rel (cx P kl n B) E' H' a w
 have h1:=Wp.regionDQ (id:=id) (Q:=zl K Q) plan hm hl hp (Dr.run (h K (fun E H hq _ a w hR=>⟨E,H,hq,hR⟩) (fun E H E' H' hw hk hB a w hR=>hk hB a w (Rel.cut hB hR hw))))
 intro hB a w hR
 refine wp_mono (h1 hB a w hR) ?_
 intro e a' w' ⟨E',H',hq,hR'⟩
 cases e <;> first | exact hq hB a' w' hR' | exact ⟨E',H',hq,hR'⟩
end
section
variable {P:Program} {kl:List Bool} {n:Nat} {B:Bs} {K:Env→List Ob→Prop} {E:Env} {H:List Ob}
def reSkip (ops:List Oper) (o:Oper) (E:Env) (v:Va) (po:Option (Nat→Bool)) (_:List Ob):Prop:=agL ops o E (.cnd false v) po
theorem Dr.skipG {ops:List Oper} {l:Plan} {obs:List En} {k:Nat} {o:Oper} {v:Va} {gw:Nat × Bool} (hk:Is ops[k]? (some o)) (hg:Is o.guard (some gw)) (hb:Is (zbO ops E o) (some false)) (hd:zc2 n o.dst)
  (cont:zfW P kl n B ops.toArray K (zhX P kl n ops l ⟨⟨k,E,.cnd false v,reSkip ops o E v⟩::obs,zdi E o.dst (.cnd false v),H,True⟩)):Dr P kl n B ops.toArray (.rd k l) obs E H K:=by
 unfold Is zbO at *
 obtain ⟨j,want⟩:=gw
 rw [hg] at hb
 have h':=Dr.run cont
 simp only at h'
 rw [← zb8 hk] at h'
 have hrd:∀ H',Rdr P kl n B ops.toArray k E (.cnd false v) H':=by
  intro H' E' hE' a w Q K' hR hKK
  rw [zb8 hk] at hKK
  have hb':zbP ops.toArray.toList E j want=some false:=by simpa using hb
  rw [← zbo (zhO hk) hg hE'] at hb'
  have hw:=zbm hR hg hb'
  unfold wpOp
  simp only [zhO hk]
  rw [if_neg (by rw [hw]; simp)]
  obtain ⟨Kk,G,hX,hS,hE,hdf,hn,hkp⟩:=hR
  exact hKK _ _ (RelV.put (C:=cx P kl n B) (v:=.cnd false v) ⟨Kk,G,hX,hS,hE,hdf,hn,hkp,by simp [VR]⟩ o.dst (zG hd))
 exact Dr.read (fun _=>hrd _) (fun _ po H' hre=>⟨hrd _,agL_ok hk hre⟩) h'
end
attribute [go_sem] reSkip
attribute [go_sem] sortS_length Option.getD_none Option.getD_some Nat.sub_zero Nat.zero_add List.drop_zero
end Go.Vc
/- Two objects change places: what is known is the same with their numbers changed. -/
set_option linter.unusedSectionVars false
namespace Go.Vc
variable [Tabs]
def swN (i j o:Nat):Nat:=bif o == i then j else bif o == j then i else o
mutual
def swV (i j:Nat):Va→Va
 | .p x=>.p x
 | .nils=>.nils
 | .full r=>.full r
 | .rp r=>.rp r
 | .ptr o off=>.ptr (swN i j o) off
 | .cs o off=>.cs (swN i j o) off
 | .el o sz k off=>.el (swN i j o) sz k off
 | .buf o=>.buf (swN i j o)
 | .mp o=>.mp (swN i j o)
 | .np o=>.np (swN i j o)
 | .sd o=>.sd (swN i j o)
 | .vw o sz a n=>.vw (swN i j o) sz a n
 | .bufc o cp=>.bufc (swN i j o) cp
 | .fn f vs=>.fn f (swVs i j vs)
 | .agg vs=>.agg (swVs i j vs)
 | .tup vs=>.tup (swVs i j vs)
 | .nil=>.nil
 | .cnd t v=>.cnd t (swV i j v)
 | .raw v=>.raw v
 | .er v=>.er v
 | .top=>.top
def swVs (i j:Nat):List Va→List Va
 | []=>[]
 | v::vs=>swV i j v::swVs i j vs
end
def swO (i j:Nat):Ob→Ob
 | .cells T vs=>.cells T (swVs i j vs)
 | .it o cl seen=>.it (swN i j o) cl seen
 | .buf T sz rows=>.buf T sz rows
 | .fx T sz rows=>.fx T sz rows
 | .sb T bs=>.sb T bs
 | .mp ag es=>.mp ag es
 | .mpb ag es bs cl=>.mpb ag es bs cl
 | .gone=>.gone
def swE (i j:Nat):Env→Env
 | []=>[]
 | (m,v)::E=>(m,swV i j v)::swE i j E
def swOs (i j:Nat):List Ob→List Ob
 | []=>[]
 | x::H=>swO i j x::swOs i j H
def swH (i j:Nat) (H:List Ob):List Ob:=((swOs i j H).set i (zcY (swOs i j H) j)).set j (zcY (swOs i j H) i)
section
variable {K:Nat→Prop} {h:Array Obj} {G G':List Gh} {i j:Nat}
end
section
variable {P:Program} {kl:List Bool} {n:Nat} {B:Bs} {Q:Qt} {E:Env} {H:List Ob} {a:Act} {w:World}
attribute [go_sem] swE swV swVs swH swO swOs swN
end
end Go.Vc
/- In a region that draws its order: calls that are lent data and hand back a new growing slice; what stands under a guard. -/
set_option linter.unusedSectionVars false
namespace Go.Vc
variable [Tabs]
def Dt.flat:Dt→Bool
 | .l _=>false
 | .a _=>false
 | _=>true
def flatR:List Dt→Bool
 | []=>true
 | d::ds=>d.flat && flatR ds
def zje (rows:List (List Dt)):Prop:=∀ r ∈ rows,flatR r=true
theorem zht {α:Type} {e:α→List Dt} (h:∀ x,flatR (e x)=true) (l:List α):zje (List.map e l):=fun r hr=>by
 obtain ⟨x,_,rfl⟩:=List.mem_map.1 hr
 exact h x
section
variable {K K':Nat→Prop} {h h':Array Obj}
theorem DR.flat {c:Value}:∀ {d:Dt},d.flat=true→DR K h c d→DR K' h' c d
 | .b _,_,hd=>by simpa only [DR] using hd
 | .i _ _,_,hd=>by simpa only [DR] using hd
 | .s _,_,hd=>by simpa only [DR] using hd
 | .l _,hf,_=>by simp [Dt.flat] at hf
 | .a _,hf,_=>by simp [Dt.flat] at hf
theorem DRs.flat:∀ {ds:List Dt} {vs:List Value},flatR ds=true→DRs K h vs ds→DRs K' h' vs ds
 | [],_,_,hd=>by simpa only [DRs] using hd
 | d::ds,vs,hf,hd=>by
  simp only [flatR,Bool.and_eq_true] at hf
  simp only [DRs] at *
  obtain ⟨v,vs',e,h1,h2⟩:=hd
  exact ⟨v,vs',e,DR.flat hf.1 h1,DRs.flat hf.2 h2⟩
theorem DRss.flat {sz:Nat}:∀ {rows:List (List Dt)} {vs:List Value},zje rows→DRss K h sz vs rows→DRss K' h' sz vs rows
 | [],_,_,hd=>by simpa only [DRss] using hd
 | r::rows,vs,hf,hd=>by
  simp only [DRss] at *
  obtain ⟨a,b,e,h1,h2,h3⟩:=hd
  exact ⟨a,b,e,h1,DRs.flat (hf r (by simp)) h2,DRss.flat (fun r' h'=>hf r' (by simp [h'])) h3⟩
end
theorem ObR.flatBuf {K K':Nat→Prop} {h:Array Obj} {G G':List Gh} {g:Gh} {T:TypeId} {sz:Nat} {rows:List (List Dt)} (hf:zje rows) (hx:ObR K h G g (.buf T sz rows)):ObR K' h G' g (.buf T sz rows):=by
 obtain ⟨h1,xs,h2,h3⟩:=hx
 exact ⟨h1,xs,DRss.flat hf h2,h3⟩
theorem St.push1 {K:Nat→Prop} {G:List Gh} {H:List Ob} {w:World} {g:Gh} {x:Ob} (hS:St K G H w) (hx:ObR K w.heap (G++[g]) g x)
  (hb:∀ b,g.blk=some b→b < w.heap.size∧¬ K b∧∀ (o:Nat) (g':Gh),G[o]?=some g'→g'.blk ≠ some b):St K (G++[g]) (H++[x]) w:=by
 have cs:∀ {o:Nat} {g':Gh},(G++[g])[o]?=some g'→(o < G.length∧G[o]?=some g') ∨ (o=G.length∧g'=g):=by
  intro o g' h
  rcases Nat.lt_or_ge o G.length with h1 | h1
  ·rw [List.getElem?_append_left h1] at h; exact .inl ⟨h1,h⟩
  ·rw [List.getElem?_append_right h1] at h
   rcases Nat.eq_zero_or_pos (o - G.length) with h2 | h2
   ·rw [h2] at h; simp at h; exact .inr ⟨by omega,h.symm⟩
   ·rw [List.getElem?_eq_none (by simp; omega)] at h; cases h
 refine ⟨by simp [hS.len],hS.kb,fun o g' b hg hgb=>?_,fun o o' g1 g2 b h1 h2 hb1 hb2=>?_,fun o g' y hg hy=>?_,hS.tb⟩
 ·rcases cs hg with ⟨_,h⟩ | ⟨_,rfl⟩
  ·exact hS.gb o g' b h hgb
  ·exact ⟨(hb b hgb).1,(hb b hgb).2.1⟩
 ·rcases cs h1 with ⟨_,e1⟩ | ⟨e1,rfl⟩ <;> rcases cs h2 with ⟨_,e2⟩ | ⟨e2,rfl⟩
  ·exact hS.inj o o' g1 g2 b e1 e2 hb1 hb2
  ·exact absurd hb1 ((hb b hb2).2.2 o g1 e1)
  ·exact absurd hb2 ((hb b hb1).2.2 o' g2 e2)
  ·omega
 ·rcases cs hg with ⟨hl,h⟩ | ⟨rfl,rfl⟩
  ·rw [List.getElem?_append_left (by rw [← hS.len]; exact hl)] at hy
   exact ObR.keep ⟨fun _ h=>h,fun _ _=>rfl⟩ (f:=fun _=>true) (fun q g0 _ hq=>by rw [List.getElem?_append_left (List.getElem?_eq_some_iff.1 hq).1]; exact hq) (fun _ _=>rfl) (Ob.all_true _) (hS.ob o g' y h hy)
  ·rw [hS.len,List.getElem?_append_right (Nat.le_refl _)] at hy
   simp at hy
   subst hy
   exact hx
section
variable {P:Program} {kl:List Bool} {n:Nat} {B:Bs} {K:Env→List Ob→Prop} {E:Env} {H:List Ob}
theorem callLN_wp {o:Oper} {c:Call} {fop:Operand} {f:FuncId} {caps args:List Va} {T:TypeId} {sz:Nat} {rows:List (List Dt)} (hs:Does P f args [] fun r X=>r=.buf 0∧X=[.buf T sz rows]) (hfl:zje rows) (ho:o.op=.call c) (hc:c.callee=.value fop)
  (hok:opOk true E fop∧allOk true E c.args.toList) (hf:opnd E fop=.fn f caps) (hp:zcF H (opnds E c.args.toList++caps)=some args) {a:Act} {w:World} {Q:Exit→Act→World→Prop} {K':Act→World→Prop} (hR:Rel (cx P kl n B) E H a w)
  (hK:∀ c' w',RelV (cx P kl n B) E (H++[.buf T sz rows]) c' (.buf H.length) a w'→K' (a.put o.dst c') w'):o.wp P a w K' Q:=by
 obtain ⟨Kk,G,hX,hS,hE,hdf,hn,hkp⟩:=hR
 have hvf:=zu hE rfl fop hok.1
 rw [hf] at hvf
 simp only [VR] at hvf
 obtain ⟨cs,hcs,hcv⟩:=hvf
 have hargs:=zcA hE rfl c.args.toList hok.2
 have hall:=zcE hS hp (hargs.append hcv)
 unfold Oper.wp
 rw [zdT ho hc hcs hs.1]
 simp only [Oper.upon]
 refine (hs.2 (zjz Kk G) [] w _ (St.nil (zgC hS) (hS.tb.mono ⟨fun _ h=>.inl h,fun _ _=>rfl⟩)) hall).mono ?_
 rintro e w' ⟨c',r,X',K1,G1,rfl,⟨rfl,rfl⟩,hX1,hS1,hv,_⟩
 have fr:∀ b,b < w.heap.size→w'.heap[b]?=w.heap[b]?:=fun b hb=>hX1.frame b hb (fun o g0 h=>by simp at h)
 have hA:=hS.after hX1
 simp only [VR] at hv
 obtain ⟨g,hg,rfl,hgo⟩:=hv
 have hgl:G1=[g]:=by
  have hl:=hS1.len
  match G1,hl,hg with
  | [g'],_,hg=>simp at hg; rw [hg]
 subst hgl
 have hbn:∀ b,g.blk=some b→w.heap.size≤b∧b < w'.heap.size:=fun b hb=>⟨hX1.gnew 0 g b (by simp) hg hb,(hS1.gb 0 g b hg hb).1⟩
 have hx:=hS1.ob 0 g (.buf T sz rows) hg rfl
 have hS2:St Kk (G++[g]) (H++[.buf T sz rows]) w':=hA.push1 (ObR.flatBuf hfl hx) fun b hb=>⟨(hbn b hb).2,fun hk=>by have:=hS.kb b hk; have:=(hbn b hb).1; omega,fun o' g' h' e=>by have:=(hS.gb o' g' b h' e).1; have:=(hbn b hb).1; omega⟩
 have hMg:Mg (fun _=>true) G (G++[g]):=fun q g0 _ hq=>by rw [List.getElem?_append_left (List.getElem?_eq_some_iff.1 hq).1]; exact hq
 have cs:∀ {o:Nat} {g':Gh},(G++[g])[o]?=some g'→(o < G.length∧G[o]?=some g') ∨ (o=G.length∧g'=g):=by
  intro o g' h
  rcases Nat.lt_or_ge o G.length with h1 | h1
  ·rw [List.getElem?_append_left h1] at h; exact .inl ⟨h1,h⟩
  ·rw [List.getElem?_append_right h1] at h
   rcases Nat.eq_zero_or_pos (o - G.length) with h2 | h2
   ·rw [h2] at h; simp at h; exact .inr ⟨by omega,h.symm⟩
   ·rw [List.getElem?_eq_none (by simp; omega)] at h; cases h
 have hX2:Ext (kpf kl) B.K0 B.G0 B.w0 Kk (G++[g]) w':=by
  refine hX.trans ⟨hX1.os,hX1.tape,hX1.output,hX1.size,fun _ h=>h,fun _ h=>.inl h,by simp,fun o' g0 g' b h0 h1 hb=>?_,fun o' g' b ho' h1 hb=>?_,fun o' g0 _ h0=>hMg o' g0 rfl h0,fun b hb _=>fr b hb⟩
  ·rcases cs h1 with ⟨_,h⟩ | ⟨h,rfl⟩
   ·rw [h0] at h; cases h; exact .inl hb
   ·have:=(List.getElem?_eq_some_iff.1 h0).1; omega
  ·rcases cs h1 with ⟨h,_⟩ | ⟨_,rfl⟩
   ·omega
   ·exact (hbn b hb).1
 refine hK g.sv w' ⟨Kk,G++[g],hX2,hS2,fun m=>VR.keep (f:=fun _=>true) ⟨fun _ h=>h,fun b hb=>fr b (hS.kb b hb)⟩ hMg _ _ (Va.all_true _) (hE m),hdf,hn,fun y hy=>?_,?_⟩
 ·obtain ⟨z,hz,hk⟩:=hkp y hy
  exact ⟨z,by rw [List.getElem?_append_left (List.getElem?_eq_some_iff.1 hz).1]; exact hz,hk⟩
 ·simp only [VR]
  exact ⟨g,by rw [← hS.len]; simp,rfl,hgo⟩
end
section
variable {P:Program} {kl:List Bool} {n:Nat} {B:Bs} {ops:List Oper} {K:Env→List Ob→Prop} {l:Plan} {obs:List En} {E:Env} {H:List Ob}
theorem Br.callLN {k:Nat} {L:List Nat} {f:FuncId} {av args:List Va} {o:Oper} {T:TypeId} {sz:Nat} {rows:List (List Dt)} (hs:Does P f args [] fun r X=>r=.buf 0∧X=[.buf T sz rows]) (hfl:zje rows) (hk:Is ops[k]? (some o)) (ha:Is (zau E o) (some (f,av))) (hb:Is (zbO ops E o) (some true)) (hp:Is (zcF H av) (some args)) (hok:zdX n true E o)
  (hag:zcL L none (H++[.buf T sz rows]) obs)
  (cont:zfW P kl n B ops.toArray K (zhX P kl n ops l ⟨obs,zdi E o.dst (ze7 o.guard true (.buf H.length)),H++[.buf T sz rows],True⟩)):Br P kl n B ops.toArray k L l obs E H K:=by
 unfold Is at *
 unfold zau at ha
 split at ha
 rotate_left
 ·cases ha
 rename_i c h1
 split at ha
 rotate_left
 ·cases ha
 rename_i fop h3
 split at ha
 rotate_left
 ·cases ha
 rename_i f' caps h4
 cases ha
 obtain ⟨hd,hk1,hk2⟩:=zaL hok h1 h3
 have h':=Dr.run cont
 simp only at h'
 rw [← zb8 hk] at h'
 refine Br.eff (po:=none) (fun _=>?_) hag h'
 intro E' hE' a w Q K' hR hK
 have hop:=zdt (zhO hk) hE'
 rw [h1] at hop
 have hfo:rnd E fop=rnd E' fop:=hop fop (by simp [Op.operands,Call.operands,h3])
 have hag':Agree c.args.toList E E':=fun x hx=>hop x (by simp only [Op.operands,Call.operands,Array.toList_append,List.mem_append]; exact .inr hx)
 rw [Agree.opOk hfo] at hk1
 rw [Agree.allOk hag'] at hk2
 rw [Agree.opnd hfo] at h4
 rw [Agree.opnds hag'] at hp
 rw [zb8 hk] at hK
 unfold wpOp
 simp only [zhO hk]
 unfold zbO at hb
 cases hgd:o.guard with
 | none =>
  rw [hgd] at hb hK
  rw [if_pos (by simp [Region.wanted,hgd])]
  exact .inl (callLN_wp hs hfl h1 h3 ⟨hk1,hk2⟩ h4 hp hR fun c' w' hRV=>hK _ _ (hRV.put o.dst (zG hd)))
 | some gw =>
  obtain ⟨j,want⟩:=gw
  rw [hgd] at hb hK
  have hb':zbP ops.toArray.toList E j want=some true:=by simpa using hb
  rw [← zbo (zhO hk) hgd hE'] at hb'
  have hw:=zbm hR hgd hb'
  rw [if_pos hw]
  exact .inl (callLN_wp hs hfl h1 h3 ⟨hk1,hk2⟩ h4 hp hR fun c' w' hRV=>hK _ _ (RelV.put (v:=.cnd true _) (by
   obtain ⟨Kk,G,q1,q2,q3,q4,q5,q6,q7⟩:=hRV
   exact ⟨Kk,G,q1,q2,q3,q4,q5,q6,by simp only [VR]; exact ⟨fun _=>q7,fun e=>Bool.noConfusion e⟩⟩) o.dst (zG hd)))
theorem Br.skipG {k:Nat} {L:List Nat} {o:Oper} {v:Va} {gw:Nat × Bool} (hk:Is ops[k]? (some o)) (hg:Is o.guard (some gw)) (hb:Is (zbO ops E o) (some false)) (hd:zc2 n o.dst)
  (cont:zfW P kl n B ops.toArray K (zhX P kl n ops l ⟨obs,zdi E o.dst (.cnd false v),H,True⟩)):Br P kl n B ops.toArray k L l obs E H K:=by
 unfold Is zbO at *
 obtain ⟨j,want⟩:=gw
 rw [hg] at hb
 have h':=Dr.run cont
 simp only at h'
 rw [← zb8 hk] at h'
 exact Br.skip (fun _=>rdr_skip hk hg hb hd) h'
theorem Br.runT {k:Nat} {L:List Nat} {o:Oper} {gw:Nat × Bool} (hk:Is ops[k]? (some o)) (hg:Is o.guard (some gw)) (hb:Is (zbO ops E o) (some true)) (h:zfW P kl n B ops.toArray K (zhX P kl n ops l (dEffG n o L (zjg E o.op) ⟨obs,E,H,True⟩ (zeq P (kpf kl) E H o.op)))):Br P kl n B ops.toArray k L l obs E H K:=by
 unfold Is zbO at *
 obtain ⟨j,want⟩:=gw
 rw [hg] at hb
 have hok:=(zbt h).2
 have h':=Dr.run h
 simp only [dEffG] at h'
 rw [← zb8 hk] at h'
 exact Br.eff (fun _=>efr_okG (zhO hk) hg (by simpa using hb) hok.1 hok.2.1) hok.2.2 h'
theorem Br.callEG {k:Nat} {L:List Nat} {f:FuncId} {av args:List Va} {X Y:List Ob} {o:Oper} {v:Va} (ids:List Nat) (hs:Does P f args X fun r X'=>r=v∧X'=Y) (hk:Is ops[k]? (some o)) (ha:Is (zau E o) (some (f,av))) (hb:Is (zbO ops E o) (some true)) (hp:Is (rnAs ids av) (some args)) (hXs:Is (subH ids H ids) (some X)) (hids:zhq H.length ids=true) (hok:zdX n true E o)
  (hag:zcL L (some (zcu ids H)) (ze1 (zbL (zcu ids H) H) ids (zjq ids H.length Y)) obs)
  (cont:zfW P kl n B ops.toArray K (zhX P kl n ops l ⟨obs,zdi (zcz (zcu ids H) E) o.dst (ze7 o.guard true (bkV ids H.length v)),ze1 (zbL (zcu ids H) H) ids (zjq ids H.length Y),True⟩)):Br P kl n B ops.toArray k L l obs E H K:=by
 unfold Is at *
 unfold zau at ha
 split at ha
 rotate_left
 ·cases ha
 rename_i c h1
 split at ha
 rotate_left
 ·cases ha
 rename_i fop h3
 split at ha
 rotate_left
 ·cases ha
 rename_i f' caps h4
 cases ha
 obtain ⟨hd,hk1,hk2⟩:=zaL hok h1 h3
 have h':=Dr.run cont
 simp only at h'
 rw [← zb8 hk] at h'
 refine Br.eff (po:=some (zcu ids H)) (fun _=>?_) hag h'
 intro E' hE' a w Q K' hR hK
 have hop:=zdt (zhO hk) hE'
 rw [h1] at hop
 have hfo:rnd E fop=rnd E' fop:=hop fop (by simp [Op.operands,Call.operands,h3])
 have hag':Agree c.args.toList E E':=fun x hx=>hop x (by simp only [Op.operands,Call.operands,Array.toList_append,List.mem_append]; exact .inr hx)
 rw [Agree.opOk hfo] at hk1
 rw [Agree.allOk hag'] at hk2
 rw [Agree.opnd hfo] at h4
 rw [Agree.opnds hag'] at hp
 rw [zb8 hk] at hK
 unfold wpOp
 simp only [zhO hk]
 unfold zbO at hb
 cases hgd:o.guard with
 | none =>
  rw [hgd] at hb hK
  rw [if_pos (by simp [Region.wanted,hgd])]
  refine .inl (zeX ids hs h1 h3 ⟨hk1,hk2⟩ h4 hp hXs hids hR fun c' r X' w' ⟨hr,hX⟩ _ hRV=>?_)
  subst hr; subst hX
  exact hK _ _ (hRV.put o.dst (zG hd))
 | some gw =>
  obtain ⟨j,want⟩:=gw
  rw [hgd] at hb hK
  have hb':zbP ops.toArray.toList E j want=some true:=by simpa using hb
  rw [← zbo (zhO hk) hgd hE'] at hb'
  have hw:=zbm hR hgd hb'
  rw [if_pos hw]
  refine .inl (zeX ids hs h1 h3 ⟨hk1,hk2⟩ h4 hp hXs hids hR fun c' r X' w' ⟨hr,hX⟩ _ hRV=>?_)
  subst hr; subst hX
  exact hK _ _ (RelV.put (v:=.cnd true _) (by
   obtain ⟨Kk,G,q1,q2,q3,q4,q5,q6,q7⟩:=hRV
   exact ⟨Kk,G,q1,q2,q3,q4,q5,q6,by simp only [VR]; exact ⟨fun _=>q7,fun e=>Bool.noConfusion e⟩⟩) o.dst (zG hd))
end
attribute [go_sem] Option.toArray Array.toList_append
end Go.Vc
/- strings.Builder's Grow: no byte of the builder changes (its inner grow). -/
set_option linter.unusedVariables false
set_option linter.unusedSectionVars false
namespace Go.Proofs
open Go.Shelf Go.RowKit
variable {P:Program} {ρ:Ren}
set_option maxHeartbeats 2000000 in
set_option maxRecDepth 1000000 in
theorem Any.grow_row (L:Lays.n241 P ρ) (X:Builder.Extra P ρ) (b n l c:Nat) (a:Option Addr) (cs:List Value) (w:World)
  (hbk:w.heap[b]?=some (.cells #[.pointer (some ⟨b,0,none⟩),.slice a l c] (ρ.t 72) (0,0)))
  (hl:cs.length=l) (h1:∀ v ∈ cs,v.oneCell'=true)
  (hsrc:l=0 ∨ ∃ g cur T fr,a=some ⟨g,0,none⟩∧w.heap[g]?=some (.cells cur T fr)∧cur.toList.take l=cs)
  (hcap:2 * c+n≤281474976710656) (hlc:l≤c) :
  Calls P (ρ.f 241) #[.pointer (some ⟨b,0,none⟩),.int .i64 n] w fun e w'=>e=.returned (.tuple #[])∧∃ xs:Array Value,w'.os=w.os∧w'.tape=w.tape∧w'.output=w.output ∧
   2 * c+n≤xs.size∧xs.size≤maxLen∧xs.toList.take l=cs∧w'.heap.size=w.heap.size+1∧(∀ i,i < w.heap.size→i ≠ b→w'.heap[i]?=w.heap[i]?) ∧
   w'.heap[w.heap.size]?=some (.cells xs (ρ.t 5) (0,0))∧w'.heap[b]?=some (.cells #[.pointer (some ⟨b,0,none⟩),.slice (some ⟨w.heap.size,0,none⟩) l xs.size] (ρ.t 72) (0,0)):=by
 obtain ⟨ys,hrun,hle,hmax⟩:=Lib.run_makeNoZero (P:=P) w.drew #[(ρ.t 3)] (ρ.t 37) (ρ.t 5) L.t37 (2 * c+n) hcap
 have hw:IntKind.i64.wrap (IntKind.i64.wrap (2 * (c:Int))+(n:Int))=((2 * c+n:Nat):Int):=by
  rw [IntKind.wrap_i64,IntKind.wrap_i64]
  omega
 have hcall:(callFunc (ρ.f 277) #[.int .i64 (IntKind.i64.wrap (IntKind.i64.wrap (2 * (c:Int))+(n:Int)))]).run P w.drew=.ok (.value (.slice (some ⟨w.drew.heap.size,0,none⟩) (2 * c+n) ys.size)) (w.drew.drew.drew.alloc (.cells ys (ρ.t 5))):=by
  rw [hw,run_callFunc_extern L.f277 (by kernel_rfl) (by kernel_rfl) (by kernel_rfl) (e:=Extern.BytealgMakeNoZero.makeNoZero #[(ρ.t 3)] #[(ρ.t 37)]) (by kernel_rfl),hrun]
  rfl
 have c1:w.drew.cell? ⟨b,1,none⟩=some (.slice a l c):=by
  have:w.drew.heap[b]?=_:=hbk
  rw [Lib.cell_of_heap this]; rfl
 have hlt:b < w.heap.size:=by
  rcases Nat.lt_or_ge b w.heap.size with h' | h'
  ·exact h'
  ·simp [Array.getElem?_eq_none h'] at hbk
 have c2:(w.alloc (.cells ys (ρ.t 5))).cell? ⟨b,1,none⟩=some (.slice a l c):=by
  have:(w.alloc (.cells ys (ρ.t 5))).heap[b]?=_:=(Lib.alloc_old w _ b hlt).trans hbk
  rw [Lib.cell_of_heap this]; rfl
 have f2:(w.alloc (.cells ys (ρ.t 5))).frozen? ⟨b,1,none⟩=false :=
  Lib.frozen_of_heap ((Lib.alloc_old w _ b hlt).trans hbk) 1
 have c3:(((w.alloc (.cells ys (ρ.t 5))).drew.drew.drew).setRow w.heap.size (cs++ys.toList.drop l).toArray).heap[b]?=some (.cells #[.pointer (some ⟨b,0,none⟩),.slice a l c] (ρ.t 72) (0,0)) :=
  (setRow_other _ _ _ _ (by omega)).trans ((Lib.alloc_old w _ b hlt).trans hbk)
 have c3':(((w.alloc (.cells ys (ρ.t 5))).drew.drew.drew).setRow w.heap.size (cs++ys.toList.drop l).toArray).cell? ⟨b,1,none⟩=some (.slice a l c):=by rw [Lib.cell_of_heap c3]; rfl
 have f3:(((w.alloc (.cells ys (ρ.t 5))).drew.drew.drew).setRow w.heap.size (cs++ys.toList.drop l).toArray).frozen? ⟨b,1,none⟩=false:=Lib.frozen_of_heap c3 1
 clear hw
 have hly:l≤ys.size:=by omega
 have hmy:ys.size≤maxLen:=hmax (by unfold maxLen; omega)
 have hcopy:∀ W:World,W.heap=(w.alloc (.cells ys (ρ.t 5))).heap→(Builtin.copy_ #[(ρ.t 37),(ρ.t 37)] (ρ.t 3) #[.slice (some ⟨w.heap.size,0,none⟩) l ys.size,.slice a l c]).run P W=.ok (goInt l) (W.setRow w.heap.size (cs++ys.toList.drop l).toArray):=by
  intro W hW
  have hg:W.heap[w.heap.size]?=some (.cells ys (ρ.t 5) (0,0)):=by rw [hW]; exact heap_alloc_new w _
  rcases hsrc with h0 | ⟨g,cur,T,fr,rfl,hgc,htk⟩
  ·have hcs:cs=[]:=List.length_eq_zero_iff.1 (by omega)
   subst h0
   subst hcs
   rw [run_copy_none W (ρ.t 37) (ρ.t 37) (ρ.t 3) (ρ.t 5) _ _ 0 ys.size 0 c L.t37 X.sizeByte rfl]
   simp only [List.nil_append,List.drop_zero,Array.toArray_toList]
   rw [setRow_self W w.heap.size ys (ρ.t 5) (0,0) hg]
   rfl
  ·have hgl:g < w.heap.size:=by
    rcases Nat.lt_or_ge g w.heap.size with h' | h'
    ·exact h'
    ·simp [Array.getElem?_eq_none h'] at hgc
   have hgW:W.heap[g]?=some (.cells cur T fr):=by rw [hW]; exact (Lib.alloc_old w _ g hgl).trans hgc
   have:=run_copy_row (P:=P) W (ρ.t 37) (ρ.t 37) (ρ.t 3) (ρ.t 5) w.heap.size 0 l ys.size ⟨g,0,none⟩ l c ys (ρ.t 5) cs L.t37 X.sizeByte hg (by rw [hl]; exact (Nat.min_self l).symm) (fun j v hj=>?_) (by omega) h1
   ·rw [this,hl]
    simp
   ·rw [show (⟨g,0,none⟩:Addr).add j=⟨g,0+j,none⟩ from by cases j <;> simp [Addr.add],cell_of_row W g (0+j) cur T fr hgW,Nat.zero_add]
    rw [← htk,List.getElem?_take] at hj
    split at hj
    ·rw [← Array.getElem?_toList]; exact hj
    ·cases hj
 have mixed:=L.mixed
 have t72:=L.t72; have a72:=L.a72; have z72:=L.z72; have v72:=L.v72; have u72:=run_underlying L.t72
 have t70:=L.t70; have a70:=L.a70; have z70:=L.z70; have v70:=L.v70; have u70:=run_underlying L.t70
 have t37:=L.t37; have a37:=L.a37; have z37:=L.z37; have v37:=L.v37; have u37:=run_underlying L.t37
 have t3:=L.t3; have a3:=L.a3; have z3:=L.z3; have v3:=L.v3; have u3:=run_underlying L.t3
 have t5:=X.t5; have a5:=X.a5; have z5:=X.z5; have v5:=X.v5; have u5:=run_underlying X.t5
 go_enter L.f241,Body.n241_ntmps ρ
 go_wp2
 go_region_o
 all_goals go_wp2
 all_goals rw [hcopy ((w.alloc (.cells ys (ρ.t 5))).drew.drew.drew) rfl]
 all_goals simp only [Result.andThen]
 all_goals rw [Oper.upon_value]
 all_goals go_wp2
 all_goals go_end0
 all_goals
  have hxl:(cs++ys.toList.drop l).toArray.size=ys.size:=by simp; omega
  have hsz:w.heap.size < (w.alloc (.cells ys (ρ.t 5))).heap.size:=by rw [World.size_alloc]; omega
  rw [setCell_eq_setRow _ b 1 _ _ _ _ c3]
  refine ⟨rfl,(cs++ys.toList.drop l).toArray,rfl,rfl,rfl,by omega,by omega,by simp [← hl],?_,fun i hi hib=>?_,?_,?_⟩
  ·simp
  ·rw [setRow_other _ _ _ _ hib,setRow_other _ _ _ _ (by omega)]
   exact heap_alloc_old w _ hi
  ·rw [setRow_other _ _ _ _ (by omega)]
   exact setRow_heap _ _ ys _ _ _ (heap_alloc_new w _)
  ·rw [setRow_heap _ _ _ _ _ _ c3,hxl]
   rfl
end Go.Proofs
/- strings.Builder's Grow: no byte of the builder changes (the whole,and as a call of the walks). -/
set_option linter.unusedVariables false
set_option linter.unusedSectionVars false
namespace Go.Proofs
open Go.Shelf Go.RowKit
variable {P:Program} {ρ:Ren}
set_option maxHeartbeats 2000000 in
set_option maxRecDepth 1000000 in
theorem Any.Grow_used (L:Lays.n165 P ρ) (X:Builder.Extra P ρ) (b n l c:Nat) (a:Option Addr) (cs:List Value) (w0 w:World)
  (h0:∀ W:World,(W=w0 ∨ W=w0.drew)→Calls P (ρ.f 240) #[.pointer (some ⟨b,0,none⟩)] W fun e w'=>e=.returned (.tuple #[])∧w'.heap=w.heap∧w'.os=w.os∧w'.tape=w.tape∧w'.output=w.output)
  (hbk:w.heap[b]?=some (.cells #[.pointer (some ⟨b,0,none⟩),.slice a l c] (ρ.t 72) (0,0)))
  (hl:cs.length=l) (h1:∀ v ∈ cs,v.oneCell'=true)
  (hsrc:l=0 ∨ ∃ g cur T fr,a=some ⟨g,0,none⟩∧w.heap[g]?=some (.cells cur T fr)∧cur.toList.take l=cs)
  (hn:n≤274877906944) (hlim:l≤274877906944) (hlc:l≤c) (hc:c≤9223372036854775807) :
  Calls P (ρ.f 165) #[.pointer (some ⟨b,0,none⟩),.int .i64 n] w0 fun e w'=>e=.returned (.tuple #[])∧w'.os=w.os∧w'.tape=w.tape∧w'.output=w.output∧(∀ i,i < w.heap.size→i ≠ b→w'.heap[i]?=w.heap[i]?) ∧
   (w'.heap.size=w.heap.size∧w'.heap[b]?=some (.cells #[.pointer (some ⟨b,0,none⟩),.slice a l c] (ρ.t 72) (0,0)) ∨
    ∃ xs:Array Value,l≤xs.size∧0 < xs.size∧xs.size≤maxLen∧xs.toList.take l=cs∧w'.heap.size=w.heap.size+1∧w'.heap[w.heap.size]?=some (.cells xs (ρ.t 5) (0,0)) ∧
     w'.heap[b]?=some (.cells #[.pointer (some ⟨b,0,none⟩),.slice (some ⟨w.heap.size,0,none⟩) l xs.size] (ρ.t 72) (0,0))):=by
 have mixed:=L.mixed
 have t72:=L.t72; have a72:=L.a72; have z72:=L.z72; have v72:=L.v72; have u72:=run_underlying L.t72
 have t70:=L.t70; have a70:=L.a70; have z70:=L.z70; have v70:=L.v70; have u70:=run_underlying L.t70
 have t37:=L.t37; have a37:=L.a37; have z37:=L.z37; have v37:=L.v37; have u37:=run_underlying L.t37
 have t3:=L.t3; have a3:=L.a3; have z3:=L.z3; have v3:=L.v3; have u3:=run_underlying L.t3
 have t9:=L.t9; have a9:=L.a9; have z9:=L.z9; have v9:=L.v9; have u9:=run_underlying L.t9
 have t4:=L.t4; have a4:=L.a4; have z4:=L.z4; have v4:=L.v4; have u4:=run_underlying L.t4
 have t164:=L.t164; have a164:=L.a164; have z164:=L.z164; have v164:=L.v164; have u164:=run_underlying L.t164
 have t5:=X.t5; have a5:=X.a5; have z5:=X.z5; have v5:=X.v5; have u5:=run_underlying X.t5
 have e240:∀ args w,(callFunc (ρ.f 240) args).run P w=.ok (.enter (ρ.f 240) args) w:=enters_of L.f240 (by kernel_rfl) rfl
 have e241:∀ args w,(callFunc (ρ.f 241) args).run P w=.ok (.enter (ρ.f 241) args) w:=enters_of L.f241 (by kernel_rfl) rfl
 go_enter L.f165,Body.n165_ntmps ρ
 go_wp2_with (go_at_fn (ρ.f 240); refine (h0 _ (by first | exact .inl rfl | exact .inr rfl)).mono ?_; rintro e w1 ⟨rfl,hh,ho,ht,hout⟩)
 have hb1:w1.heap[b]?=some (.cells #[.pointer (some ⟨b,0,none⟩),.slice a l c] (ρ.t 72) (0,0)):=by rw [hh]; exact hbk
 have c1:w1.cell? ⟨b,1,none⟩=some (.slice a l c):=by rw [Lib.cell_of_heap hb1]; rfl
 have c1':w1.drew.cell? ⟨b,1,none⟩=some (.slice a l c):=c1
 go_region_o
 have hgrow:c < l+n→∀ W:World,(W=w1.drew ∨ W=w1.drew.drew)→Calls P (ρ.f 241) #[.pointer (some ⟨b,0,none⟩),.int .i64 n] W _:=fun hlt W hW=>Any.grow_row { L with } X b n l c a cs W (by rcases hW with rfl | rfl <;> exact hb1) hl h1 (by
  rcases hsrc with h | ⟨g,cur,T,fr,h2,h3,h4⟩
  ·exact .inl h
  ·exact .inr ⟨g,cur,T,fr,h2,by rcases hW with rfl | rfl <;> exact (congrArg (fun h:Array Obj=>h[g]?) hh).trans h3,h4⟩) (by omega) hlc
 go_wp2_with (go_at_fn (ρ.f 241); refine (hgrow (by omega) _ (by first | exact .inl rfl | exact .inr rfl)).mono ?_; rintro e w2 ⟨rfl,xs,q1,q2,q3,q4,q5,q6,q7,q8,q9,q10⟩)
 ·go_end0
  have hW:(w1.drew).heap=w.heap:=hh
  refine ⟨rfl,q1.trans ho,q2.trans ht,q3.trans hout,fun i hi hib=>?_,.inr ⟨xs,by omega,by omega,q5,q6,?_,?_,?_⟩⟩
  ·rw [q8 i (by first | exact hW ▸ hi | exact (show (w1.drew.drew).heap=w.heap from hh) ▸ hi) hib]
   exact congrArg (fun h:Array Obj=>h[i]?) hh
  ·rw [q7]; exact congrArg (fun h:Array Obj=>h.size+1) hh
  ·rw [← hh]; exact q9
  ·rw [← hh]; exact q10
 ·go_end0
  exact ⟨rfl,ho,ht,hout,fun i _ _=>congrArg (fun h:Array Obj=>h[i]?) hh,.inl ⟨congrArg Array.size hh,hb1⟩⟩
theorem Any.Grow (L:Lays.n165 P ρ) (X:Builder.Extra P ρ) (b n l c:Nat) (a:Option Addr) (cs:List Value) (p:Value) (w:World)
  (hp:p=.pointer none ∨ p=.pointer (some ⟨b,0,none⟩))
  (hbk:w.heap[b]?=some (.cells #[p,.slice a l c] (ρ.t 72) (0,0)))
  (hl:cs.length=l) (h1:∀ v ∈ cs,v.oneCell'=true)
  (hsrc:l=0 ∨ ∃ g cur T fr,a=some ⟨g,0,none⟩∧g ≠ b∧w.heap[g]?=some (.cells cur T fr)∧cur.toList.take l=cs)
  (hn:n≤274877906944) (hlim:l≤274877906944) (hlc:l≤c) (hc:c≤9223372036854775807) :
  Calls P (ρ.f 165) #[.pointer (some ⟨b,0,none⟩),.int .i64 n] w fun e w'=>e=.returned (.tuple #[])∧w'.os=w.os∧w'.tape=w.tape∧w'.output=w.output∧(∀ i,i < w.heap.size→i ≠ b→w'.heap[i]?=w.heap[i]?) ∧
   (w'.heap.size=w.heap.size∧w'.heap[b]?=some (.cells #[.pointer (some ⟨b,0,none⟩),.slice a l c] (ρ.t 72) (0,0)) ∨
    ∃ xs:Array Value,l≤xs.size∧0 < xs.size∧xs.size≤maxLen∧xs.toList.take l=cs∧w'.heap.size=w.heap.size+1∧w'.heap[w.heap.size]?=some (.cells xs (ρ.t 5) (0,0)) ∧
     w'.heap[b]?=some (.cells #[.pointer (some ⟨b,0,none⟩),.slice (some ⟨w.heap.size,0,none⟩) l xs.size] (ρ.t 72) (0,0))):=by
 rcases hp with rfl | rfl
 ·have hs1:w.setCell ⟨b,0,none⟩ (.pointer (some ⟨b,0,none⟩))=w.setRow b #[.pointer (some ⟨b,0,none⟩),.slice a l c]:=by rw [setCell_eq_setRow w b 0 _ _ _ _ hbk]; rfl
  have hb1:(w.setCell ⟨b,0,none⟩ (.pointer (some ⟨b,0,none⟩))).heap[b]?=some (.cells #[.pointer (some ⟨b,0,none⟩),.slice a l c] (ρ.t 72) (0,0)):=by
   rw [hs1]; exact setRow_heap _ _ _ _ _ _ hbk
  have ho:∀ i,i ≠ b→(w.setCell ⟨b,0,none⟩ (.pointer (some ⟨b,0,none⟩))).heap[i]?=w.heap[i]?:=fun i hi=>by rw [hs1]; exact setRow_other _ _ _ _ hi
  have hsz:(w.setCell ⟨b,0,none⟩ (.pointer (some ⟨b,0,none⟩))).heap.size=w.heap.size:=by rw [hs1]; exact setRow_size _ _ _
  refine (Any.Grow_used L X b n l c a cs w (w.setCell ⟨b,0,none⟩ (.pointer (some ⟨b,0,none⟩))) ?_ hb1 hl h1 ?_ hn hlim hlc hc).mono ?_
  ·intro W hW
   have hWh:W.heap=w.heap:=by rcases hW with rfl | rfl <;> rfl
   have hWb:W.heap[b]?=some (.cells #[.pointer none,.slice a l c] (ρ.t 72) (0,0)):=by rw [hWh]; exact hbk
   refine (Any.Builder_copyCheck_fresh { L with } X.toX72 b W (by rw [Lib.cell_of_heap hWb]; rfl) (by simp [World.shape?,hWb]) (Lib.frozen_of_heap hWb 0)).mono ?_
   rintro e w' ⟨rfl,rfl⟩
   rcases hW with rfl | rfl <;> exact ⟨rfl,rfl,rfl,rfl,rfl⟩
  ·rcases hsrc with h | ⟨g,cur,T,fr,h2,h3,h4,h5⟩
   ·exact .inl h
   ·exact .inr ⟨g,cur,T,fr,h2,(ho g h3).trans h4,h5⟩
  ·rintro e w' ⟨h1,h2,h3,h4,h5,h6⟩
   rw [hsz] at h5 h6
   exact ⟨h1,h2,h3,h4,fun i hi hib=>(h5 i hi hib).trans (ho i hib),h6⟩
 ·refine (Any.Grow_used L X b n l c a cs w w ?_ hbk hl h1 ?_ hn hlim hlc hc).mono fun e w' h=>h
  ·intro W hW
   have hWh:W.heap=w.heap:=by rcases hW with rfl | rfl <;> rfl
   have hWb:W.heap[b]?=some (.cells #[.pointer (some ⟨b,0,none⟩),.slice a l c] (ρ.t 72) (0,0)):=by rw [hWh]; exact hbk
   refine (Any.Builder_copyCheck_used { L with } X.toX72 b W (by rw [Lib.cell_of_heap hWb]; rfl)).mono ?_
   rintro e w' ⟨rfl,rfl⟩
   rcases hW with rfl | rfl <;> exact ⟨rfl,rfl,rfl,rfl,rfl⟩
  ·rcases hsrc with h | ⟨g,cur,T,fr,h2,h3,h4,h5⟩
   ·exact .inl h
   ·exact .inr ⟨g,cur,T,fr,h2,h4,h5⟩
end Go.Proofs
namespace Go.Vc
open Go.Proofs Go.Shelf
variable [Tabs] {P:Program} {ρ:Ren}
theorem byteV_one (bs:List UInt8):∀ v ∈ bs.map zfb,v.oneCell'=true:=by
 intro v hv
 obtain ⟨x,_,rfl⟩:=List.mem_map.1 hv
 rfl
theorem Does.grow (L:Lays.n165 P ρ) (X:Builder.Extra P ρ) (n:Nat) (bs:List UInt8) (hn:n≤274877906944) :
  Does P (ρ.f 165) [.ptr 0 0,.p (.i .i64 n)] [.cells (ρ.t 72) [.np 0,.buf 1],.sb (ρ.t 5) bs] (fun r Y=>r=.tup []∧Y=[.cells (ρ.t 72) [.np 0,.buf 1],.sb (ρ.t 5) bs]):=by
 refine ⟨⟨_,L.f165,by kernel_rfl,by kernel_rfl⟩,fun K G w vals hS hV=>?_⟩
 simp only [VRs,VR,DR] at hV
 obtain ⟨c0,r0,rfl,⟨g0,b,hg0,hb0,rfl⟩,c1,r1,rfl,⟨rfl,hfit⟩,rfl⟩:=hV
 obtain ⟨b',cs,q1,q2,q3⟩:=hS.ob 0 g0 _ hg0 rfl
 obtain rfl:b=b':=Option.some.inj (hb0.symm.trans q1)
 simp only [VRs,VR] at q3
 obtain ⟨p,rr,rfl,hp,sv,rr',rfl,⟨g1,hg1,rfl,a,l,c,hsv⟩,rfl⟩:=q3
 have hp':p=.pointer none ∨ p=.pointer (some ⟨b,0,none⟩):=by
  rcases hp with h | ⟨g,b2,h1,h2,h3⟩
  ·exact .inl h
  ·rw [hg0] at h1; cases h1; rw [hb0] at h2; cases h2; exact .inr h3
 obtain ⟨hlim,hh⟩:=hS.ob 1 g1 _ hg1 rfl
 have hsrc:bs.length=l∧l≤c∧c≤9223372036854775807∧(l=0 ∨ ∃ g cur T fr,a=some ⟨g,0,none⟩∧g ≠ b∧w.heap[g]?=some (.cells cur T fr)∧cur.toList.take l=bs.map zfb):=by
  rcases hh with ⟨e1,rfl,_⟩ | ⟨gb,cap,cur,fr,e1,e2,e3,e4,e5,e6,e7,e8,e9⟩
  ·rw [hsv] at e1; cases e1; exact ⟨rfl,by omega,by omega,.inl rfl⟩
  ·rw [hsv] at e1; cases e1
   refine ⟨rfl,e5,by simp only [maxLen] at e7; omega,.inr ⟨gb,cur,_,fr,rfl,?_,e3,e9⟩⟩
   rintro rfl
   have:=hS.inj 0 1 g0 g1 _ hg0 hg1 hb0 e2
   omega
 obtain ⟨hl,hlc,hc,hsrc⟩:=hsrc
 have hlim':l≤274877906944:=by rw [← hl]; exact hlim
 refine (Any.Grow L X b n l c a (bs.map zfb) p w hp' (by rw [hsv] at q2; exact q2) (by simpa using hl) (byteV_one bs) hsrc hn hlim' hlc hc).mono ?_
 rintro e w' ⟨rfl,ho,ht,hout,hfr,hcase⟩
 have hl0:0 < G.length:=(List.getElem?_eq_some_iff.1 hg0).1
 have hl1:1 < G.length:=(List.getElem?_eq_some_iff.1 hg1).1
 rcases hcase with ⟨hsz,hbk⟩ | ⟨xs,x1,x2,x3,x4,hsz,x5,x6⟩
 ·have hfr':∀ i,i ≠ b→w'.heap[i]?=w.heap[i]?:=by
   intro i hi
   rcases Nat.lt_or_ge i w.heap.size with h | h
   ·exact hfr i h hi
   ·rw [Array.getElem?_eq_none h,Array.getElem?_eq_none (by omega)]
  refine ⟨.tuple #[],.tup [],_,K,G,rfl,⟨rfl,rfl⟩,Ext.modA _ hg0 hb0 ho ht hout hsz hfr',hS.modA hg0 hb0 hsz hfr' (x:=.cells (ρ.t 72) [.np 0,.buf 1]) ?_,?_,?_⟩
  ·refine ⟨b,[.pointer (some ⟨b,0,none⟩),.slice a l c],hb0,hbk,?_⟩
   simp only [VRs,VR]
   exact ⟨_,_,rfl,.inr ⟨g0,b,hg0,hb0,rfl⟩,_,_,rfl,⟨g1,hg1,hsv.symm,a,l,c,hsv⟩,rfl⟩
  ·simp only [VR,VRs]; exact ⟨[],rfl,rfl⟩
  ·exact zic _
 ·have hG0:(G.set 1 ⟨some w.heap.size,.slice (some ⟨w.heap.size,0,none⟩) l xs.size⟩)[0]?=some g0:=by rw [List.getElem?_set_ne (by omega)]; exact hg0
  have hG1:(G.set 1 ⟨some w.heap.size,.slice (some ⟨w.heap.size,0,none⟩) l xs.size⟩)[1]?=some ⟨some w.heap.size,.slice (some ⟨w.heap.size,0,none⟩) l xs.size⟩:=List.getElem?_set_self hl1
  have hblt:=(hS.gb 0 g0 b hg0 hb0).1
  have s1:=hS.modB hg1 (w':=w.alloc (.cells xs (ρ.t 5))) (g1:=⟨some w.heap.size,.slice (some ⟨w.heap.size,0,none⟩) l xs.size⟩) (x:=.sb (ρ.t 5) bs) (by rw [World.size_alloc]; omega) (fun i hi _=>heap_alloc_old w _ hi) (fun i hi=>by cases hi; rw [World.size_alloc]; exact ⟨by omega,.inr (Nat.le_refl _)⟩) ⟨hlim,.inr ⟨w.heap.size,xs.size,xs,(0,0),by rw [hl],rfl,heap_alloc_new w _,.inl rfl,by omega,x2,x3,rfl,by rw [hl]; exact x4⟩⟩
  have e1:=Ext.modB (K:=K) (kp:=kpf (kinds [.cells (ρ.t 72) [.np 0,.buf 1],.sb (ρ.t 5) bs])) (w:=w) (w':=w.alloc (.cells xs (ρ.t 5))) hg1 (g1:=⟨some w.heap.size,.slice (some ⟨w.heap.size,0,none⟩) l xs.size⟩) rfl rfl rfl rfl (by rw [World.size_alloc]; omega) (fun i hi _=>heap_alloc_old w _ hi) (fun i hi=>by cases hi; exact .inr (Nat.le_refl _))
  have hsz2:w'.heap.size=(w.alloc (.cells xs (ρ.t 5))).heap.size:=by rw [World.size_alloc,hsz]
  have hfr2:∀ i,i ≠ b→w'.heap[i]?=(w.alloc (.cells xs (ρ.t 5))).heap[i]?:=by
   intro i hi
   rcases Nat.lt_trichotomy i w.heap.size with h | h | h
   ·rw [heap_alloc_old w _ h]; exact hfr i h hi
   ·subst h; rw [heap_alloc_new w _]; exact x5
   ·rw [Array.getElem?_eq_none (by omega),Array.getElem?_eq_none (by rw [World.size_alloc]; omega)]
  have s2:=s1.modA hG0 hb0 (w':=w') hsz2 hfr2 (x:=.cells (ρ.t 72) [.np 0,.buf 1]) (by
   refine ⟨b,[.pointer (some ⟨b,0,none⟩),.slice (some ⟨w.heap.size,0,none⟩) l xs.size],hb0,x6,?_⟩
   simp only [VRs,VR]
   exact ⟨_,_,rfl,.inr ⟨g0,b,hG0,hb0,rfl⟩,_,_,rfl,⟨_,hG1,rfl,_,_,_,rfl⟩,rfl⟩)
  refine ⟨.tuple #[],.tup [],_,K,_,rfl,⟨rfl,rfl⟩,e1.trans (Ext.modA _ hG0 hb0 ho ht hout hsz2 hfr2),s2,?_,zic _⟩
  simp only [VR,VRs]; exact ⟨[],rfl,rfl⟩
end Go.Vc
/- Sorts,out of the library's proved contracts: a growing slice of strings sorted in place; the keys of a map,sorted. -/
set_option linter.unusedSectionVars false
set_option linter.unusedVariables false
namespace Go.Vc
open Go.Proofs Go.Shelf
variable [Tabs]
section
variable {P:Program} {ρ:Ren}
end
end Go.Vc
/- strings.Trim at a cutset of ASCII bytes,out of the kit's contract. -/
set_option linter.unusedVariables false
set_option linter.unusedSectionVars false
namespace Go.Vc
open Go.Proofs Go.Shelf Go.RowKit
variable [Tabs] {P:Program} {ρ:Ren}
theorem Does.below {f:FuncId} {args:List Va} {r:Va} (hc:zeg P f)
  (h:∀ (K:Nat→Prop) (w:World) vals,TabOk K w.heap→VRs K w.heap [] vals args→Calls P f vals.toArray w fun e w'=>∃ v,e=.returned v∧Below w.heap.size w w'∧VR K w'.heap [] v r) :
  Does P f args [] fun r' X=>r'=r∧X=[]:=by
 refine ⟨hc,fun K G w vals hS hV=>?_⟩
 have hG:G=[]:=List.eq_nil_of_length_eq_zero (by have:=hS.len; simpa using this)
 subst hG
 refine (h K w vals hS.tb hV).mono ?_
 rintro e w' ⟨v,rfl,hB,hv⟩
 have hM:Mn K K w.heap w'.heap:=⟨fun _ h=>h,fun b hb=>hB.block b (hS.kb b hb)⟩
 refine ⟨v,r,[],K,[],rfl,⟨rfl,rfl⟩,{ Ext.refl (kpf (kinds [])) K [] w with os:=hB.os,tape:=hB.tape,output:=hB.output,size:=hB.size,frame:=fun b hb _=>hB.block b hb },
  ⟨rfl,fun b hb=>Nat.lt_of_lt_of_le (hS.kb b hb) hB.size,fun o g b hg=>by simp at hg,fun o o' g g' b hg=>by simp at hg,fun o g x hg=>by simp at hg,hS.tb.mono hM⟩,hv,zic []⟩
theorem trimS_le (s cs:List UInt8):(Lib.trimS s cs).length≤s.length:=by
 unfold Lib.trimS Lib.trimLeftS Lib.trimRightS
 have h1:=(List.dropWhile_sublist (cs.contains ·) (l:=(s.reverse.dropWhile (cs.contains ·)).reverse)).length_le
 have h2:=(List.dropWhile_sublist (cs.contains ·) (l:=s.reverse)).length_le
 simp only [List.length_reverse] at h1 h2
 omega
theorem Does.trim (L:Lays.n160 P ρ) (h116:(P.info? (ρ.t 116)).map (fun i=>(i.zero,i.size))=some (some (.agg (Array.replicate 256 (.bool false))),256)) (hc:zeg P (ρ.f 160)) (s cut:List UInt8) (hcs:cut.length < 4294967281) (ha:∀ c ∈ cut,c.toNat < 128) :
  Does P (ρ.f 160) [.p (.s s),.p (.s cut)] [] fun r X=>r=.p (.s (Lib.trimS s cut))∧X=[]:=by
 refine Does.below hc fun K w vals _ hV=>?_
 simp only [VRs,VR,DR] at hV
 obtain ⟨c0,r0,rfl,⟨rfl,hs⟩,c1,r1,rfl,⟨rfl,hl⟩,rfl⟩:=hV
 have hd:∀ l:List UInt8,(⟨l.toArray⟩:ByteArray).data.toList=l:=fun l=>by simp
 have hz:∀ l:List UInt8,(⟨l.toArray⟩:ByteArray).size=l.length:=fun l=>by simp [ByteArray.size]
 refine (Any.strings_Trim_laid L h116 ⟨s.toArray⟩ ⟨cut.toArray⟩ w (by rw [hz]; simp only [Lim] at hs; omega) (by rw [hz]; exact hcs) (fun j b hb=>ha b (by rw [hd] at hb; exact List.mem_of_getElem? hb))).mono ?_
 rintro e w' ⟨rfl,hB⟩
 refine ⟨_,rfl,hB,?_⟩
 simp only [VR,DR]
 exact ⟨trivial,Nat.le_trans (trimS_le s cut) hs⟩
end Go.Vc
/- strconv.Atoi,out of the kit's contracts: its number; the error is left open. -/
set_option linter.unusedVariables false
set_option linter.unusedSectionVars false
namespace Go.Vc
open Go.Proofs Go.Shelf Go.RowKit
variable [Tabs] {P:Program} {ρ ρ':Ren}
def atoiN (s:List UInt8):Int:=(Lib.atoi s).getD 0
end Go.Vc
/- strconv.Itoa,out of the kit's contract. -/
set_option linter.unusedVariables false
set_option linter.unusedSectionVars false
namespace Go.Vc
open Go.Proofs Go.Shelf Go.RowKit
variable [Tabs] {P:Program} {ρ:Ren}
theorem Does.itoa (L:LaysM.n171 P ρ) (hc:zeg P (ρ.f 171)) {b:Nat} (hg:P.globalNamed "internal/strconv.uint64pow10"=some b) (hT:Tabs.tab b=some (.u64,Lib.pow10Tab)) (n:Int) (h0:-9223372036854775808≤n) (h1:n≤9223372036854775807) :
  Does P (ρ.f 171) [.p (.i .i64 n)] [] fun r X=>r=.p (.s (Lib.itoa n))∧X=[]:=by
 refine Does.below hc fun K w vals hT' hV=>?_
 simp only [VRs,VR,DR] at hV
 obtain ⟨c0,r0,rfl,⟨rfl,_⟩,rfl⟩:=hV
 obtain ⟨_,⟨T,fr,hcell⟩,_⟩:=hT'.1 _ _ _ hT
 have htab:Lib.TabIs P w "internal/strconv.uint64pow10" .u64 Lib.pow10Tab:=by
  unfold Lib.TabIs World.var?
  rw [hg]; simp [hcell]
 refine (Any.strconv_Itoa L n h0 h1 w htab).mono ?_
 rintro e w' ⟨rfl,k,os,rfl⟩
 refine ⟨_,rfl,Lib.below_grow _ _ (Nat.le_refl _) _ _,?_⟩
 simp only [VR,DR]
 exact ⟨trivial,by have:=Lib.itoa_length_le n h0 h1; simp only [Lim]; omega⟩
end Go.Vc
/- strconv.Atoi at every string,out of the kit's contracts: its number,and whether there is an error. -/
set_option linter.unusedVariables false
set_option linter.unusedSectionVars false
namespace Go.Vc
open Go.Proofs Go.Shelf Go.RowKit
variable [Tabs] {P:Program} {ρ:Ren}
def zg8 (s:List UInt8):Int:=match Lib.atoiAll s with
 | .ok v=>v
 | .range=>Lib.atoiSat s
 | _=>0
def atoiE (s:List UInt8):Bool:=match Lib.atoiAll s with
 | .ok _=>true
 | _=>false
theorem Does.atoiA (L:LaysC.n172 P ρ) (h15:Tabs.ifc (ρ.g 15)=true) (h16:Tabs.ifc (ρ.g 16)=true) (hc:zeg P (ρ.f 172)) (s:List UInt8) :
  Does P (ρ.f 172) [.p (.s s)] [] fun r X=>r=.tup [.p (.i .i64 (zg8 s)),.er (atoiE s)]∧X=[]:=by
 refine Does.below hc fun K w vals hT hV=>?_
 simp only [VRs,VR,DR] at hV
 obtain ⟨c0,r0,rfl,⟨rfl,hl⟩,rfl⟩:=hV
 have hd:(⟨s.toArray⟩:ByteArray).data.toList=s:=by simp
 have hz:(⟨s.toArray⟩:ByteArray).size=s.length:=by simp [ByteArray.size]
 have hlim:(⟨s.toArray⟩:ByteArray).size≤281474976710656:=by rw [hz]; simp only [Lim] at hl; omega
 have cell:∀ b,Tabs.ifc b=true→∃ ev,w.cell? ⟨b,0,none⟩=some ev∧(ev=.nilIface ∨ ∃ te pe,ev=.iface te pe):=fun b hb=>by
  obtain ⟨_,ev,T,fr,hcell,hev⟩:=hT.2 _ hb
  exact ⟨ev,by rw [Lib.cell_of_heap hcell]; rfl,hev⟩
 cases h:Lib.atoiAll s with
 | ok v =>
  obtain ⟨b0,b1⟩:=Lib.atoiAll_bounds h
  refine (Any.strconv_Atoi_ok L ⟨s.toArray⟩ (by omega) v (by rw [hd]; exact h) w).mono ?_
  rintro e w' ⟨rfl,hw⟩
  refine ⟨_,rfl,by rcases hw with rfl | ⟨t,rfl⟩ <;> first | exact Below.refl _ _ | exact Lib.bytesWorld_below _ _ _,?_⟩
  simp only [VR,VRs,DR,zg8,atoiE,h]
  exact ⟨_,rfl,_,_,rfl,⟨rfl,by simp only [Fits,lo,hi]; omega⟩,_,_,rfl,.inl ⟨trivial,rfl⟩,rfl⟩
 | range =>
  obtain ⟨ev,hw,hev⟩:=cell _ h16
  obtain ⟨b0,b1⟩:=Lib.atoiSat_bounds s
  refine (Any.strconv_Atoi_range L ⟨s.toArray⟩ hlim (by rw [hd]; exact h) ev w hw hev).mono ?_
  rintro e w' ⟨N,rfl,_,_,hB⟩
  refine ⟨_,rfl,hB,?_⟩
  simp only [VR,VRs,DR,zg8,atoiE,h]
  exact ⟨_,rfl,_,_,rfl,⟨rfl,by simp only [Fits,lo,hi]; omega⟩,_,_,rfl,.inr ⟨trivial,_,_,rfl⟩,rfl⟩
 | _ =>
  obtain ⟨ev,hw,hev⟩:=cell _ h15
  refine (Any.strconv_Atoi_syntax L ⟨s.toArray⟩ hlim (by rw [hd]; exact h) ev w hw hev).mono ?_
  rintro e w' ⟨N,rfl,_,_,hB⟩
  refine ⟨_,rfl,hB,?_⟩
  simp only [VR,VRs,DR,zg8,atoiE,h]
  exact ⟨_,rfl,_,_,rfl,⟨rfl,by simp only [Fits,lo,hi]; omega⟩,_,_,rfl,.inr ⟨trivial,_,_,rfl⟩,rfl⟩
end Go.Vc
/- slices.Grow of a nil slice,out of the kit's contracts: a growing slice of one's own that is empty. -/
set_option linter.unusedVariables false
set_option linter.unusedSectionVars false
namespace Go.Vc
open Go.Proofs Go.Shelf Go.RowKit Go.Lib
variable [Tabs] {P:Program} {ρ:Ren}
theorem Does.growNil (L:Lays8.n4 P ρ) {i0:TypeInfo} {z:Value} (hi0:P.info? (ρ.t 25)=some i0) (hz0:i0.zero=some z) (hzl:z.cells.size=i0.size) (hs0:0 < i0.size) (hc:zeg P (ρ.f 4)) (n:Nat) (hn:n≤274877906944) (hb:n * i0.bytes≤140737488355328) :
  Does P (ρ.f 4) [.nils,.p (.i .i64 n)] [] fun r X=>r=.buf 0∧X=[.buf (ρ.t 25) i0.size []]:=by
 refine ⟨hc,fun K G w vals hS hV=>?_⟩
 have hG:G=[]:=List.eq_nil_of_length_eq_zero (by have:=hS.len; simpa using this)
 subst hG
 simp only [VRs,VR,DR] at hV
 obtain ⟨c0,r0,rfl,rfl,c1,r1,rfl,⟨rfl,_⟩,rfl⟩:=hV
 have hkp:∀ X',kpOk (kpf (kinds [])) X':=fun X' y hy=>by simp [kpf,kinds] at hy
 rcases Nat.eq_zero_or_pos n with rfl | hpos
 ·refine (Any8.slices_Grow_room L none 0 0 0 w (by omega) (by omega) (by omega) (by omega)).mono ?_
  rintro e w' ⟨rfl,rfl⟩
  refine ⟨_,.buf 0,[.buf (ρ.t 25) i0.size []],K,[⟨none,.slice none 0 0⟩],rfl,⟨rfl,rfl⟩,{ Ext.refl (kpf (kinds [])) K [] w' with glen:=by simp,gold:=fun o g0 g b h=>by simp at h,gnew:=fun o g b _ h hb'=>?_,gsame:=fun o g0 _ h=>by simp at h },?_,?_,hkp _⟩
  ·cases o with
   | zero=>simp at h; subst h; cases hb'
   | succ o=>simp at h
  ·refine ⟨rfl,hS.kb,fun o g b h hb'=>?_,fun o o' g g' b h _ hb'=>?_,fun o g x h hx=>?_,hS.tb⟩
   ·cases o with
    | zero=>simp at h; subst h; cases hb'
    | succ o=>simp at h
   ·cases o with
    | zero=>simp at h; subst h; cases hb'
    | succ o=>simp at h
   ·cases o with
    | zero =>
     simp at h hx; subst h; subst hx
     exact ⟨Nat.zero_le _,[],by simp [DRss],.inl ⟨⟨_,rfl⟩,rfl,rfl⟩⟩
    | succ o=>simp at h
  ·simp only [VR]
   exact ⟨⟨none,.slice none 0 0⟩,rfl,rfl,none,0,0,rfl⟩
 ·have hge:0+n≤grownCap w (0+n) 0 (ρ.t 25):=grownCap_ge w _ _ _
  have hcm:grownCap w (0+n) 0 (ρ.t 25)≤maxLen:=grownCap_le_maxLen w (0+n) 0 (ρ.t 25) (by unfold maxLen; omega)
  refine (Any8.slices_Grow_grow L i0 z hi0 hz0 hs0 none 0 0 n [] w (by omega) (by omega) (by rw [Nat.zero_add]; exact hb) (by omega) (by simp) (fun _=>rfl) (fun a h=>by cases h)).mono ?_
  rintro e w' ⟨rfl,rfl⟩
  have hSd:St K [] [] w.drew:={ hS with }
  have hx:=Ext.push (w:=w.drew) (K:=K) (G:=[]) (kpf (kinds [])) (.cells ((#[]:Array Value)++Builtin.zeroCells z.cells (0+n - 0)++Builtin.zeroCells z.cells (grownCap w (0+n) 0 (ρ.t 25) - (0+n))) (ρ.t 25)) (.slice (some ⟨w.heap.size,0,none⟩) 0 (grownCap w (0+n) 0 (ρ.t 25)))
  refine ⟨_,.buf 0,[.buf (ρ.t 25) i0.size []],K,[⟨some w.heap.size,.slice (some ⟨w.heap.size,0,none⟩) 0 (grownCap w (0+n) 0 (ρ.t 25))⟩],rfl,⟨rfl,rfl⟩,{ hx with },?_,?_,hkp _⟩
  ·refine St.push (w:=w.drew) hSd ⟨Nat.zero_le _,[],by simp [DRss],.inr ⟨w.heap.size,_,_,(0,0),rfl,rfl,heap_alloc_new w.drew _,.inl rfl,Nat.zero_le _,hcm,?_,by simp⟩⟩
   simp only [Array.size_append,size_zeroCells,hzl,List.size_toArray,List.length_nil,Nat.zero_add,Nat.sub_zero,← Nat.add_mul]
   congr 1
   rw [Nat.zero_add] at hge
   omega
  ·simp only [VR]
   exact ⟨_,rfl,rfl,_,_,_,rfl⟩
section
variable {kl:List Bool} {n:Nat} {B:Bs} {K:Env→List Ob→Prop} {E:Env} {H:List Ob}
theorem callNV_wp {o:Oper} {c:Call} {fop:Operand} {f:FuncId} {caps:List Va} {k:IntKind} {m:Int} {T:TypeId} {sz:Nat} {rows:List (List Dt)} (hs:Does P f [.nils,.p (.i k m)] [] fun r X=>r=.buf 0∧X=[.buf T sz rows]) (hfl:zje rows) (ho:o.op=.call c) (hc:c.callee=.value fop)
  (hok:opOk true E fop∧allOk true E c.args.toList) (hf:opnd E fop=.fn f caps) (hp:opnds E c.args.toList++caps=[.nils,.p (.i k m)]) {a:Act} {w:World} {Q:Exit→Act→World→Prop} {K':Act→World→Prop} (hR:Rel (cx P kl n B) E H a w)
  (hK:∀ c' w',RelV (cx P kl n B) E (H++[.buf T sz rows]) c' (.buf H.length) a w'→K' (a.put o.dst c') w'):o.wp P a w K' Q:=by
 obtain ⟨Kk,G,hX,hS,hE,hdf,hn,hkp⟩:=hR
 have hvf:=zu hE rfl fop hok.1
 rw [hf] at hvf
 simp only [VR] at hvf
 obtain ⟨cs,hcs,hcv⟩:=hvf
 have hargs:=zcA hE rfl c.args.toList hok.2
 have hall0:=hargs.append hcv
 rw [hp] at hall0
 unfold Oper.wp
 rw [zdT ho hc hcs hs.1]
 simp only [Oper.upon]
 refine (hs.2 (zjz Kk G) [] w _ (St.nil (zgC hS) (hS.tb.mono ⟨fun _ h=>.inl h,fun _ _=>rfl⟩)) (by simp only [VRs,VR,DR] at hall0 ⊢; exact hall0)).mono ?_
 rintro e w' ⟨c',r,X',K1,G1,rfl,⟨rfl,rfl⟩,hX1,hS1,hv,_⟩
 have fr:∀ b,b < w.heap.size→w'.heap[b]?=w.heap[b]?:=fun b hb=>hX1.frame b hb (fun o g0 h=>by simp at h)
 have hA:=hS.after hX1
 simp only [VR] at hv
 obtain ⟨g,hg,rfl,hgo⟩:=hv
 have hgl:G1=[g]:=by
  have hl:=hS1.len
  match G1,hl,hg with
  | [g'],_,hg=>simp at hg; rw [hg]
 subst hgl
 have hbn:∀ b,g.blk=some b→w.heap.size≤b∧b < w'.heap.size:=fun b hb=>⟨hX1.gnew 0 g b (by simp) hg hb,(hS1.gb 0 g b hg hb).1⟩
 have hx:=hS1.ob 0 g (.buf T sz rows) hg rfl
 have hS2:St Kk (G++[g]) (H++[.buf T sz rows]) w':=hA.push1 (ObR.flatBuf hfl hx) fun b hb=>⟨(hbn b hb).2,fun hk=>by have:=hS.kb b hk; have:=(hbn b hb).1; omega,fun o' g' h' e=>by have:=(hS.gb o' g' b h' e).1; have:=(hbn b hb).1; omega⟩
 have hMg:Mg (fun _=>true) G (G++[g]):=fun q g0 _ hq=>by rw [List.getElem?_append_left (List.getElem?_eq_some_iff.1 hq).1]; exact hq
 have cs:∀ {o:Nat} {g':Gh},(G++[g])[o]?=some g'→(o < G.length∧G[o]?=some g') ∨ (o=G.length∧g'=g):=by
  intro o g' h
  rcases Nat.lt_or_ge o G.length with h1 | h1
  ·rw [List.getElem?_append_left h1] at h; exact .inl ⟨h1,h⟩
  ·rw [List.getElem?_append_right h1] at h
   rcases Nat.eq_zero_or_pos (o - G.length) with h2 | h2
   ·rw [h2] at h; simp at h; exact .inr ⟨by omega,h.symm⟩
   ·rw [List.getElem?_eq_none (by simp; omega)] at h; cases h
 have hX2:Ext (kpf kl) B.K0 B.G0 B.w0 Kk (G++[g]) w':=by
  refine hX.trans ⟨hX1.os,hX1.tape,hX1.output,hX1.size,fun _ h=>h,fun _ h=>.inl h,by simp,fun o' g0 g' b h0 h1 hb=>?_,fun o' g' b ho' h1 hb=>?_,fun o' g0 _ h0=>hMg o' g0 rfl h0,fun b hb _=>fr b hb⟩
  ·rcases cs h1 with ⟨_,h⟩ | ⟨h,rfl⟩
   ·rw [h0] at h; cases h; exact .inl hb
   ·have:=(List.getElem?_eq_some_iff.1 h0).1; omega
  ·rcases cs h1 with ⟨h,_⟩ | ⟨_,rfl⟩
   ·omega
   ·exact (hbn b hb).1
 refine hK g.sv w' ⟨Kk,G++[g],hX2,hS2,fun m=>VR.keep (f:=fun _=>true) ⟨fun _ h=>h,fun b hb=>fr b (hS.kb b hb)⟩ hMg _ _ (Va.all_true _) (hE m),hdf,hn,fun y hy=>?_,?_⟩
 ·obtain ⟨z,hz,hk⟩:=hkp y hy
  exact ⟨z,by rw [List.getElem?_append_left (List.getElem?_eq_some_iff.1 hz).1]; exact hz,hk⟩
 ·simp only [VR]
  exact ⟨g,by rw [← hS.len]; simp,rfl,hgo⟩
theorem Rg.callNil {ops:Array Oper} {o:Oper} {l:List Oper} {f:FuncId} {k:IntKind} {m:Int} {T:TypeId} {sz:Nat} {rows:List (List Dt)} (hs:Does P f [.nils,.p (.i k m)] [] fun r X=>r=.buf 0∧X=[.buf T sz rows]) (hfl:zje rows) (ha:Is (zfN E o) (some (f,[.nils,.p (.i k m)]))) (hok:zdX n true E o)
  (cont:zfy P kl n B ops K (zj0 P kl n ops.toList l ⟨zdi E o.dst (.buf H.length),H++[.buf T sz rows],True⟩)):Rg P kl n B ops (o::l) E H K:=by
 obtain ⟨c,fop,caps,e1,e2,e3,e4,e5⟩:=zeY ha
 obtain ⟨hd,hk⟩:=zaL hok e1 e3
 intro hB a w Q hR hKK
 refine wpList_plain e2 fun K' hK'=>?_
 exact callNV_wp hs hfl e1 e3 hk e4 e5.symm hR fun c' w' hRV=>hK' _ _ (Rg.run cont hB _ _ _ (hRV.put o.dst (zG hd)) hKK)
end
end Go.Vc

