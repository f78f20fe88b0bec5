/- An abstract machine for the model: what it computes on, its operations, the walk of a body, and that all of it is true of the model (part 3). -/
import Derived.Test.YtkekfenkeeiigaaDoorVc2
import Derived.Below
import Derived.Carry
import Derived.ChangeArms
import Derived.ChangeSame
import Derived.JoinedCond
import Derived.Lib.Bytealg
import Derived.Lib.SliceRun
import Derived.LoopN
import Derived.ProofKit
import Derived.Shelf.Strings.Builder1
/- From a law's row to what its function does: how data are read as pure data,and what the row asks behind the call. -/
set_option linter.unusedSectionVars false
namespace Go.Vc
variable [Tabs]

inductive Sh where
 | b
 | i (k:IntKind)
 | s
 | l (e:List Sh)
def shFs (P:Program) (r:TypeId→Option (List Sh)):Nat→List Field→Option (List Sh)
 | _,[]=>some []
 | off,f::fs=>match r f.type with
  | some x=>if f.offset=off∧P.cellsOf f.type=x.length then match shFs P r (off+x.length) fs with
   | some y=>some (x++y)
   | none=>none
   else none
  | none=>none
def shP (P:Program):Nat→TypeId→Option (List Sh)
 | 0,_=>none
 | m+1,t=>match P.underlying t with
  | some .bool=>some [.b]
  | some (.int k)=>some [.i k]
  | some .string=>some [.s]
  | some (.slice e)=>match shP P m e with
   | some x=>if P.cellsOf e=x.length∧0 < x.length then some [.l x] else none
   | none=>none
  | some (.struct fs)=>match shFs P (shP P m) 0 fs.toList with
   | some x=>if P.cellsOf t=x.length then some x else none
   | none=>none
  | _=>none
mutual
def hasT:Dt→Sh→Prop
 | .b _,.b=>True
 | .i k _,.i k'=>k=k'
 | .s _,.s=>True
 | .l rows,.l e=>hasRs rows e
 | _,_=>False
def hasR:List Dt→List Sh→Prop
 | [],[]=>True
 | d::ds,e::es=>hasT d e∧hasR ds es
 | _,_=>False
def hasRs:List (List Dt)→List Sh→Prop
 | [],_=>True
 | r::rs,e=>hasR r e∧hasRs rs e
end
mutual
def bulkT:Dt→Nat
 | .b _=>1
 | .i _ _=>1
 | .s x=>x.length+1
 | .l rows=>bulkRs rows+1
 | .a ds=>bulkR ds+1
 | .r _=>1
def bulkR:List Dt→Nat
 | []=>0
 | d::ds=>bulkT d+bulkR ds
def bulkRs:List (List Dt)→Nat
 | []=>0
 | r::rs=>bulkR r+bulkRs rs
end
mutual
def bulkD {H:Type}:DataW H→Nat
 | .lit (.string bytes)=>bytes.length+1
 | .lit _=>1
 | .nil=>1
 | .ptr d=>bulkD d+1
 | .slice elems spare=>bulkDs elems+bulkDs spare+1
 | .agg parts=>bulkDs parts+1
 | .iface _ d=>bulkD d+1
 | .map entries=>bulkEs entries+1
 | .held _=>1
def bulkDs {H:Type}:List (DataW H)→Nat
 | []=>0
 | d::r=>bulkD d+bulkDs r
def bulkEs {H:Type}:List (Lit × DataW H)→Nat
 | []=>0
 | x::r=>bulkE x+bulkEs r
def bulkE {H:Type}:Lit × DataW H→Nat
 | (.string bytes,d)=>bytes.length+bulkD d+1
 | (_,d)=>bulkD d+1
end

theorem hasR_append:∀ {a b:List Dt} {x y:List Sh},hasR a x→hasR b y→hasR (a++b) (x++y)
 | [],_,[],_,_,h=>h
 | d::ds,_,e::es,_,h,h'=>by simp only [List.cons_append,hasR] at *; exact ⟨h.1,hasR_append h.2 h'⟩
 | [],_,_::_,_,h,_=>by simp [hasR] at h
 | _::_,_,[],_,h,_=>by simp [hasR] at h
theorem hasR_length:∀ {a:List Dt} {x:List Sh},hasR a x→a.length=x.length
 | [],[],_=>rfl
 | d::ds,e::es,h=>by simp only [hasR] at h; simp [hasR_length h.2]
 | [],_::_,h=>by simp [hasR] at h
 | _::_,[],h=>by simp [hasR] at h
theorem bulkR_append:∀ a b:List Dt,bulkR (a++b)=bulkR a+bulkR b
 | [],b=>by simp [bulkR]
 | d::a,b=>by simp only [List.cons_append,bulkR,bulkR_append a b]; omega
theorem bulkDs_length {H:Type}:∀ l:List (DataW H),l.length≤bulkDs l
 | []=>by simp [bulkDs]
 | d::l=>by
  have h1:=bulkDs_length l
  have h2:1≤bulkD d:=by
   cases d with
   | lit l=>cases l <;> simp [bulkD]
   | _=>simp [bulkD]
  simp only [List.length_cons,bulkDs]
  omega

theorem wf_fits {k:IntKind} {n:Int} (h:(Lit.int k n).wf=true):Fits k n:=by
 simp only [Lit.wf,Bool.and_eq_true,decide_eq_true_eq] at h
 cases k <;> simpa [Fits,lo,hi,IntKind.min,IntKind.max,IntKind.signed,IntKind.bits] using h

section
variable {H:Type} {enc:TypeId × Value→H} {P:Program} {w:World}
abbrev allOf (w:World):Nat→Prop:=fun b=>b < w.heap.size
def Rd1 (w:World) (cs:List Value) (d:DataW H) (shs:List Sh):Prop:=∃ row,DRs (allOf w) w.heap cs row∧hasR row shs∧bulkR row≤bulkD d

theorem cells_of {a:Addr} {n:Nat} {cs:List Value} (hn:0 < n) (h:w.cells? 0 a n=some cs):cs.length=n∧a.block < w.heap.size∧a.spot=none∧∃ cur T fr,w.heap[a.block]?=some (.cells cur T fr)∧∀ j v,cs[j]?=some v→cur[a.off+j]?=some v:=by
 obtain ⟨_,h2,h3⟩:=World.cells?_some h
 have h0:=h3 0 hn
 have hlt:0 < cs.length:=by omega
 rw [List.getElem?_eq_getElem hlt] at h0
 unfold World.cell? at h0
 have ha:a.add 0=a:=rfl
 rw [ha] at h0
 split at h0
 rotate_left
 ·cases h0
 rename_i cur T fr hb
 split at h0
 ·cases h0
 rename_i hs
 have hs:a.spot=none:=by simpa using hs
 refine ⟨h2,(Array.getElem?_eq_some_iff.1 hb).1,hs,cur,T,fr,hb,fun j v hj=>?_⟩
 have hjl:=(List.getElem?_eq_some_iff.1 hj).1
 have hj':=h3 j (by omega)
 obtain ⟨b,o,s⟩:=a
 simp only at hs hb ⊢
 subst hs
 rw [addr_add] at hj'
 unfold World.cell? at hj'
 simp only [hb] at hj'
 rw [← hj,← hj']
 rfl

theorem fields_ok {r:TypeId→Option (List Sh)} {n:Nat} {cs:List Value}
  (ih:∀ t cs x shs,DataW.trod enc P w 0 (fun _=>true) true n t cs=some x→r t=some shs→bulkD x.1≤Lim→Rd1 w cs x.1 shs) :
  ∀ (fs:List Field) (off:Nat) (shs:List Sh) (xs:List (DataW H × List MemPlace)),shFs P r off fs=some shs→xs.length=fs.length →
   (∀ (i:Nat) (f:Field),fs[i]?=some f→DataW.trod enc P w 0 (fun _=>true) true n f.type ((cs.drop f.offset).take (P.cellsOf f.type))=xs[i]?)→bulkDs (xs.map (·.1))≤Lim →
   ∃ row,DRs (allOf w) w.heap ((cs.drop off).take shs.length) row∧hasR row shs∧bulkR row≤bulkDs (xs.map (·.1))
 | [],off,shs,xs,h,hl,_,_=>by
  simp only [shFs] at h
  cases h
  exact ⟨[],by simp [DRs],by simp [hasR],by simp [bulkR]⟩
 | f::fs,off,shs,[],_,hl,_,_=>by simp at hl
 | f::fs,off,shs,y::xs,h,hl,hx,hb=>by
  simp only [shFs] at h
  split at h
  rotate_left
  ·cases h
  rename_i x hr
  split at h
  rotate_left
  ·cases h
  rename_i hof
  split at h
  rotate_left
  ·cases h
  rename_i z hz
  cases h
  simp only [List.map_cons,bulkDs] at hb ⊢
  have h0:=hx 0 f rfl
  simp only [List.getElem?_cons_zero] at h0
  obtain ⟨row,h1,h2,h3⟩:=ih _ _ _ _ h0 hr (by omega)
  obtain ⟨row',h1',h2',h3'⟩:=fields_ok ih fs (off+x.length) z xs hz (by simpa using hl) (fun i g hg=>by simpa using hx (i+1) g (by simpa using hg)) (by omega)
  rw [hof.1,hof.2] at h1
  refine ⟨row++row',?_,hasR_append h2 h2',by rw [bulkR_append]; omega⟩
  rw [List.length_append,List.take_add,List.drop_drop]
  exact h1.append h1'

theorem elems_ok {n c:Nat} {e:TypeId} {shs:List Sh} {b off:Nat} {cur:Array Value} {T:TypeId} {fr:Nat × Nat} (hb:w.heap[b]?=some (.cells cur T fr)) (hc:0 < c) (hsh:shs.length=c)
  (ih:∀ cs x,DataW.trod enc P w 0 (fun _=>true) true n e cs=some x→bulkD x.1≤Lim→Rd1 w cs x.1 shs) :
  ∀ (els:List (DataW H × List MemPlace)) (i0:Nat),(∀ i,i < els.length→(w.cells? 0 ((⟨b,off,none⟩:Addr).add ((i0+i) * c)) c).bind (DataW.trod enc P w 0 (fun _=>true) true n e)=els[i]?)→bulkDs (els.map (·.1))≤Lim →
   ∃ vs rows,rows.length=els.length∧DRss (allOf w) w.heap c vs rows∧(∀ j v,vs[j]?=some v→cur[off+i0 * c+j]?=some v)∧hasRs rows shs∧bulkRs rows≤bulkDs (els.map (·.1))
 | [],_,_,_=>⟨[],[],rfl,by simp [DRss],by simp,by simp [hasRs],by simp [bulkRs]⟩
 | y::els,i0,hx,hbk=>by
  simp only [List.map_cons,bulkDs] at hbk ⊢
  have h0:=hx 0 (by simp)
  simp only [Nat.add_zero,List.getElem?_cons_zero,Option.bind_eq_some_iff] at h0
  obtain ⟨cs,hcs,hy⟩:=h0
  rw [addr_add] at hcs
  obtain ⟨hl,_,_,cur',T',fr',hb',hcell⟩:=cells_of hc hcs
  simp only at hb' hcell
  rw [hb] at hb'
  cases hb'
  obtain ⟨row,h1,h2,h3⟩:=ih _ _ hy (by omega)
  obtain ⟨vs,rows,r1,r2,r3,r4,r5⟩:=elems_ok hb hc hsh ih els (i0+1) (fun i hi=>by
   have:=hx (i+1) (by simpa using hi)
   rw [show i0+(i+1)=i0+1+i by omega] at this
   simpa using this) (by omega)
  refine ⟨cs++vs,row::rows,by simp [r1],?_,fun j v hj=>?_,by simp only [hasRs]; exact ⟨h2,r4⟩,by simp only [bulkRs]; omega⟩
  ·simp only [DRss]
   exact ⟨cs,vs,rfl,by rw [hasR_length h2,hsh],h1,r2⟩
  ·rw [List.getElem?_append] at hj
   split at hj
   ·exact hcell j v hj
   ·have:=r3 _ v hj
    rw [Nat.add_mul] at this
    rw [show off+i0 * c+j=off+(i0 * c+1 * c)+(j - cs.length) by omega]
    exact this

theorem read_ok:∀ (m n:Nat) (t:TypeId) (cs:List Value) (x:DataW H × List MemPlace) (shs:List Sh),DataW.trod enc P w 0 (fun _=>true) true n t cs=some x→shP P m t=some shs→bulkD x.1≤Lim→Rd1 w cs x.1 shs
 | 0,_,_,_,_,_,_,h,_=>by simp [shP] at h
 | m+1,n,t,cs,x,shs,hx,h,hb=>by
  simp only [shP] at h
  split at h
  ·rename_i hu
   cases h
   obtain ⟨n',rfl⟩:∃ n',n=n'+1:=by cases n with | zero=>simp [DataW.trod] at hx | succ n'=>exact ⟨n',rfl⟩
   unfold DataW.trod at hx
   rw [hu] at hx
   split at hx <;> simp_all
   rename_i b
   exact ⟨[.b b],by simp [DRs,DR],by simp [hasR,hasT],by rw [← hx]; simp [bulkR,bulkT,bulkD]⟩
  ·rename_i k hu
   cases h
   obtain ⟨n',rfl,h1,h2⟩:=DataW.trod_int hu hx
   subst h1
   exact ⟨[.i k n'],by simp only [DRs,DR]; exact ⟨_,_,rfl,⟨rfl,wf_fits h2⟩,rfl⟩,by simp [hasR,hasT],by simp [bulkR,bulkT,bulkD]⟩
  ·rename_i hu
   cases h
   obtain ⟨s,rfl,h1,h2⟩:=DataW.trod_string hu hx
   subst h1
   simp only [bulkD] at hb
   exact ⟨[.s s.data.toList],by simp only [DRs,DR]; exact ⟨_,_,rfl,⟨rfl,by omega⟩,rfl⟩,by simp [hasR,hasT],by simp [bulkR,bulkT,bulkD]⟩
  ·rename_i e hu
   split at h
   rotate_left
   ·cases h
   rename_i y hy
   split at h
   rotate_left
   ·cases h
   rename_i hc
   cases h
   rcases DataW.trod_slice hu hx with ⟨rfl,rfl⟩ | ⟨a,len,cap,elems,rest,n',rfl,rfl,rfl,_,hl,_,hel,hget,hsp,_⟩
   ·exact ⟨[.l []],by simp only [DRs,DR]; exact ⟨_,_,rfl,.inl ⟨⟨none,rfl⟩,trivial⟩,rfl⟩,by simp [hasR,hasT,hasRs],by simp [bulkR,bulkT,bulkRs,bulkD]⟩
   ·obtain ⟨hrl,hrest⟩:=hsp rfl
    simp only [bulkD] at hb
    rcases Nat.eq_zero_or_pos cap with rfl | hcp
    ·have:len=0:=by omega
     subst this
     exact ⟨[.l []],by simp only [DRs,DR]; exact ⟨_,_,rfl,.inl ⟨⟨some a,rfl⟩,trivial⟩,rfl⟩,by simp [hasR,hasT,hasRs],by simp [bulkR,bulkT,bulkRs,bulkD]⟩
    ·have hc0:0 < P.cellsOf e:=by rw [hc.1]; exact hc.2
     have first:∃ cs0,w.cells? 0 a (P.cellsOf e)=some cs0:=by
      rcases Nat.eq_zero_or_pos len with h0 | h0
      ·have h1:=hrest 0 (by omega)
       have h2:rest[0]? ≠ none:=by simp; intro e; subst e; simp at hrl; omega
       cases h3:rest[0]? with
       | none=>exact absurd h3 h2
       | some r0 =>
        rw [h3,h0,Option.bind_eq_some_iff] at h1
        obtain ⟨cs0,h4,_⟩:=h1
        exact ⟨cs0,by simpa [Addr.add] using h4⟩
      ·have h1:=hget 0 h0
       have h2:elems[0]? ≠ none:=by simp; intro e; subst e; simp at hel; omega
       cases h3:elems[0]? with
       | none=>exact absurd h3 h2
       | some r0 =>
        rw [h3,Option.bind_eq_some_iff] at h1
        obtain ⟨cs0,h4,_⟩:=h1
        exact ⟨cs0,by simpa [Addr.add] using h4⟩
     obtain ⟨cs0,hcs0⟩:=first
     obtain ⟨_,hblk,hspot,cur,T,fr,hcur,_⟩:=cells_of hc0 hcs0
     obtain ⟨b,off,s⟩:=a
     simp only at hblk hspot hcur
     subst hspot
     obtain ⟨vs,rows,r1,r2,r3,r4,r5⟩:=elems_ok (off:=off) hcur hc0 hc.1.symm (fun cs x h1 h2=>read_ok m n' e cs x y h1 hy h2) elems 0 (fun i hi=>by
      rw [Nat.zero_add]; exact hget i (by omega)) (by omega)
     have hlen:=bulkDs_length (elems.map (·.1))
     rw [List.length_map] at hlen
     refine ⟨[.l rows],?_,by simp only [hasR,hasT]; exact ⟨r4,trivial⟩,by simp only [bulkR,bulkT,bulkD]; omega⟩
     simp only [DRs]
     refine ⟨_,_,rfl,?_,rfl⟩
     simp only [DR]
     refine .inr ⟨b,off,cap,cur,T,fr,P.cellsOf e,vs,by rw [r1,hel],hblk,hcur,by omega,by omega,fun j v hj=>by simpa using r3 j v hj,r2⟩
  ·rename_i fs hu
   split at h
   rotate_left
   ·cases h
   rename_i y hy
   split at h
   rotate_left
   ·cases h
   rename_i hc
   cases h
   obtain ⟨xs,n',rfl,rfl,hcl,hxl,hf⟩:=DataW.trod_struct hu hx
   simp only [bulkD] at hb
   obtain ⟨row,h1,h2,h3⟩:=fields_ok (n:=n') (cs:=cs) (fun t cs x shs a b c=>read_ok m n' t cs x shs a b c) fs.toList 0 _ xs hy (by simpa using hxl) (fun i f hi=>hf i f (by simpa using hi)) (by omega)
   rw [List.drop_zero,← hc,← hcl,List.take_length] at h1
   exact ⟨row,h1,h2,by simp only [bulkD]; omega⟩
  ·cases h

def argV (ag:Bool) (row:List Dt):Va:=bif ag then .agg (row.map .p) else match row with
 | [d]=>.p d
 | _=>.top
def argVs:List Bool→List (List Dt)→List Va
 | ag::ags,r::rs=>argV ag r::argVs ags rs
 | _,_=>[]
def hasAll:List (List Dt)→List (List Sh)→Prop
 | [],[]=>True
 | r::rs,s::ss=>hasR r s∧hasAll rs ss
 | _,_=>False
theorem arg_ok {G:List Gh} {m:Nat} {t:TypeId} {v:Value} {base:Nat} {d:DataW H} {ps:List MemPlace} {shs:List Sh} (hval:Value.okWide P w .any base t v) (h:DataW.Trod enc P w 0 (fun _=>true) true t v d ps) (hs:shP P m t=some shs) (hb:bulkD d≤Lim) :
  ∃ row,VR (allOf w) w.heap G v (argV (aggP P t) row)∧hasR row shs∧bulkR row≤bulkD d:=by
 obtain ⟨n,hn⟩:=h
 obtain ⟨row,h1,h2,h3⟩:=read_ok m n t _ _ _ hn hs hb
 refine ⟨row,?_,h2,h3⟩
 cases m with
 | zero=>simp [shP] at hs
 | succ m =>
  simp only [shP] at hs
  unfold Value.okWide at hval
  have scalar:∀ d,P.underlying t=some d→aggP P t=false→v.cells.toList=[v]→row.length=1→VR (allOf w) w.heap G v (argV (aggP P t) row):=by
   intro _ _ ha hc hl
   rw [ha]
   match row,hl with
   | [d],_ =>
    rw [hc] at h1
    simp only [DRs] at h1
    obtain ⟨_,_,h,h4,_⟩:=h1
    cases h
    simpa only [argV,cond_false,VR] using h4
  split at hs
  ·rename_i hu
   cases hs
   refine scalar _ hu (by simp [aggP,hu]) ?_ (by rw [hasR_length h2]; rfl)
   rw [hu] at hval
   simp only [Cell.okWide,hu,Cell.ok] at hval
   cases v <;> first | rfl | exact hval.elim
  ·rename_i k hu
   cases hs
   refine scalar _ hu (by simp [aggP,hu]) ?_ (by rw [hasR_length h2]; rfl)
   rw [hu] at hval
   simp only [Cell.okWide,hu,Cell.ok] at hval
   cases v <;> first | rfl | exact hval.elim
  ·rename_i hu
   cases hs
   refine scalar _ hu (by simp [aggP,hu]) ?_ (by rw [hasR_length h2]; rfl)
   rw [hu] at hval
   simp only [Cell.okWide,hu,Cell.ok] at hval
   cases v <;> first | rfl | exact hval.elim
  ·rename_i e hu
   split at hs
   rotate_left
   ·cases hs
   split at hs
   rotate_left
   ·cases hs
   cases hs
   refine scalar _ hu (by simp [aggP,hu]) ?_ (by rw [hasR_length h2]; rfl)
   rw [hu] at hval
   simp only [Cell.okWide,hu,Cell.ok] at hval
   cases v <;> first | rfl | exact hval.elim
  ·rename_i fs hu
   rw [hu] at hval
   obtain ⟨cs,rfl,_⟩:=hval
   have ha:aggP P t=true:=by simp [aggP,hu]
   rw [ha]
   simp only [argV,cond_true,VR]
   exact ⟨cs.toList,by simp,h1.vrs⟩
  ·cases hs
theorem args_ok {G:List Gh} {m base:Nat}:∀ {ts:List TypeId} {vs:List Value} {ds:List (DataW H)} {ps:List MemPlace} {shss:List (List Sh)},(∀ (j:Nat) t v,ts[j]?=some t→vs[j]?=some v→Value.okWide P w .any base t v) →
  DataW.TrodAll enc P w 0 (fun _=>true) true ts vs ds ps→ts.map (shP P m)=shss.map some→bulkDs ds≤Lim→∃ rows,VRs (allOf w) w.heap G vs (argVs (ts.map (aggP P)) rows)∧hasAll rows shss∧bulkRs rows≤bulkDs ds
 | [],vs,ds,ps,shss,_,h,hs,_=>by
  match vs,ds,h with
  | [],[],_ =>
   have:shss=[]:=by cases shss <;> simp_all
   subst this
   exact ⟨[],by simp [argVs,VRs],by simp [hasAll],by simp [bulkRs]⟩
 | t::ts,vs,ds,ps,shss,hv,h,hs,hb=>by
  match vs,ds,h with
  | v::vs,d::ds,h =>
   obtain ⟨p,q,h0,h1,_⟩:=h
   match shss,hs with
   | [],hs=>simp at hs
   | s::ss,hs =>
    simp only [List.map_cons,List.cons.injEq] at hs
    simp only [bulkDs] at hb
    obtain ⟨row,r1,r2,r3⟩:=arg_ok (G:=G) (hv 0 t v rfl rfl) h0 hs.1 (by omega)
    obtain ⟨rows,q1,q2,q3⟩:=args_ok (G:=G) (fun j t v a b=>hv (j+1) t v (by simpa using a) (by simpa using b)) h1 hs.2 (by omega)
    refine ⟨row::rows,?_,by simp only [hasAll]; exact ⟨r2,q2⟩,by simp only [bulkRs,bulkDs]; omega⟩
    simp only [List.map_cons,argVs,VRs]
    exact ⟨v,vs,rfl,r1,q1⟩

theorem post_of_below {f:Func} {s:ChangeSpec} {apart fresh handsOn again:Bool} {W W':World} {args:Array Value} {v:Value} {ds gs:List (DataW H)} {before pa pv:List MemPlace}
  (hW:DataW.Whole enc P f.params.toList s.vars apart W args.toList ds gs before)
  (hres:∀ (b:Nat) (sp:Nat→Bool) (hd:Bool),DataW.TrodAll enc P W' b sp hd f.resultTypes.toList (v.resultList f.resultTypes.size) (s.fn H (ds++gs)).results [])
  (hargs:∀ sp:Nat→Bool,(∀ p ∈ before,sp p.block=true)→DataW.TrodAll enc P W' 0 sp true f.params.toList args.toList (s.fn H (ds++gs)).args pa)
  (hvars:∀ sp:Nat→Bool,(∀ p ∈ before,sp p.block=true)→DataW.TrodVars enc P W' sp s.vars (s.fn H (ds++gs)).vars pv)
  (hps:before=pa++pv) (hb:RowKit.Below W.heap.size W W')
  (hok:∀ (j:Nat) (t:TypeId) (r:Value),f.resultTypes[j]?=some t→(v.resultList f.resultTypes.size)[j]?=some r→Value.okWide P W' .any 0 t r) :
  s.post enc P f apart fresh handsOn again W args v W':=by
 have hlt:∀ p ∈ before,p.block < W.heap.size:=fun p hp=>hW.lt p hp
 have hold:∀ p ∈ before,(fun b=>decide (b < W.heap.size)) p.block=true:=fun p hp=>by simpa using hlt p hp
 refine ⟨ds,gs,before,[],pa,pv,hW,hres _ _ _,hargs _ hold,hvars _ hold,World.keptBut_mono (fun p hp=>⟨hp,?_⟩) (hb.frame (· ∈ before)),fun _=>?_⟩
 ·rw [hps,List.mem_append] at hp
  exact Or.inr hp
 ·obtain ⟨_,_,_,_,_,hz,hn⟩:=hW
  refine ⟨hok,_,_,([]++pa)++pv,⟨[]++pa,pv,ChangeShapes.trodAll_append (hargs _ (fun _ _=>rfl)) (hres _ _ _),hvars _ (fun _ _=>rfl),rfl,?_,?_⟩,?_⟩
  ·intro b off hp
   have hin:MemPlace.cell b off ∈ before:=by rw [hps]; simpa using hp
   rw [hb.frozen (hlt _ hin)]
   exact hz b off hin
  ·intro ha
   have:=hn ha
   rw [hps] at this
   simpa using this
  ·intro p hp _
   rw [hps]
   simpa using hp

theorem all_stays (hl:laidOutB P=true) {W W':World} {sp:Nat→Bool}:∀ {ts:List TypeId} {vs:List Value} {ds:List (DataW H)} {ps:List MemPlace},ts.all (fun t=>P.readableRec t && decide (t < P.types.size))=true →
  DataW.TrodAll enc P W 0 (fun _=>true) true ts vs ds ps→(∀ p ∈ ps,W.sameAt W' p)→(∀ p ∈ ps,sp p.block=true)→DataW.TrodAll enc P W' 0 sp true ts vs ds ps
 | [],vs,ds,ps,_,h,_,_=>by
  match vs,ds,h with
  | [],[],h=>exact h
 | t::ts,vs,ds,ps,ha,h,hs,hp=>by
  match vs,ds,h with
  | v::vs,d::ds,h =>
   obtain ⟨p,q,h0,h1,rfl⟩:=h
   simp only [List.all_cons,Bool.and_eq_true,decide_eq_true_eq] at ha
   exact ⟨p,q,WideElems.Trod_stays hl ha.1.1 ha.1.2 h0 (fun x hx=>hs x (by simp [hx])) (fun x hx=>hp x (by simp [hx])),
    all_stays hl ha.2 h1 (fun x hx=>hs x (by simp [hx])) (fun x hx=>hp x (by simp [hx])),rfl⟩

theorem trodAll_length {sp:Nat→Bool} {hd:Bool} {base:Nat}:∀ {ts:List TypeId} {vs:List Value} {ds:List (DataW H)} {ps:List MemPlace},DataW.TrodAll enc P w base sp hd ts vs ds ps→ds.length=ts.length
 | [],[],[],_,_=>rfl
 | t::ts,v::vs,d::ds,ps,⟨_,_,_,h,_⟩=>by simp [trodAll_length h]
 | [],_::_,_,_,h | [],[],_::_,_,h | _::_,[],_,_,h | _::_,_::_,[],_,h=>h.elim
theorem bulkDs_append:∀ a b:List (DataW H),bulkDs (a++b)=bulkDs a+bulkDs b
 | [],b=>by simp [bulkDs]
 | d::a,b=>by simp only [List.cons_append,bulkDs,bulkDs_append a b]; omega
theorem hasRs_map {α:Type} {f:α→List Dt} {e:List Sh} (h:∀ r,hasR r e→∃ a,r=f a):∀ {rows:List (List Dt)},hasRs rows e→∃ l:List α,rows=l.map f
 | [],_=>⟨[],rfl⟩
 | r::rs,hr=>by
  simp only [hasRs] at hr
  obtain ⟨a,rfl⟩:=h r hr.1
  obtain ⟨l,rfl⟩:=hasRs_map h hr.2
  exact ⟨a::l,rfl⟩

theorem law_calls {f:FuncId} {fn:Func} {s:ChangeSpec} (hv:s.vars=[]) {tb:TypeId} (hres:fn.resultTypes=#[tb]) (htb:P.underlying tb=some .bool)
  (hl:laidOutB P=true) (hts:fn.params.toList.all (fun t=>P.readableRec t && decide (t < P.types.size))=true) {m:Nat} {shss:List (List Sh)} (hsh:fn.params.toList.map (shP P m)=shss.map some)
  {W:World} {base:Nat} {args:Array Value} {ds gs:List (DataW H)} {before:List MemPlace}
  (htab:TabOk (allOf W) W.heap) (hspec:∀ ds:List (DataW H),ds.length=fn.params.toList.length→s.fn H ds={ results:=[.lit (.bool true)],args:=ds })
  (hdoes:∀ rows:List (List Dt),hasAll rows shss→bulkRs rows≤bulkDs ds→Does P f (argVs (fn.params.toList.map (aggP P)) rows) [] fun r X=>r=.p (.b true)∧X=[])
  (hval:∀ (j:Nat) t v,fn.params[j]?=some t→args[j]?=some v→Value.okWide P W .any base t v)
  (hW:DataW.Whole enc P fn.params.toList s.vars false W args.toList ds gs before) (hk:bulkDs ds≤Lim) :
  Calls P f args W fun e W'=>∃ v,e=.returned v∧s.post enc P fn false true false false W args v W':=by
 have hW':=hW
 obtain ⟨p,q,hA,hV,rfl,hfz,_⟩:=hW
 rw [hv] at hV
 have hgs:gs=[]∧q=[]:=by
  match gs,hV with
  | [],h=>exact ⟨rfl,h⟩
 obtain ⟨rfl,rfl⟩:=hgs
 obtain ⟨rows,h1,h2,h3⟩:=args_ok (G:=[]) (m:=m) (shss:=shss) (fun j t v a b=>hval j t v (by simpa using a) (by simpa using b)) hA hsh hk
 have hS:St (allOf W) [] [] W:=⟨rfl,fun _ h=>h,by simp,by simp,by simp,htab⟩
 have hc:=(hdoes rows h2 h3).2 _ _ _ _ hS h1
 rw [show args.toList.toArray=args by simp] at hc
 refine hc.mono ?_
 rintro e W' ⟨c,r,X',K',G',rfl,⟨rfl,rfl⟩,hX,hS',hvr,_⟩
 simp only [VR,DR] at hvr
 subst hvr
 refine ⟨_,rfl,?_⟩
 have hb:RowKit.Below W.heap.size W W':=⟨hX.os,hX.tape,hX.output,hX.size,fun b hb=>hX.frame b hb (fun o g0 h=>by simp at h)⟩
 have hlt:∀ x ∈ p,x.block < W.heap.size:=fun x hx=>hW'.lt x (by simpa using hx)
 have hsp:s.fn H (ds++[])={ results:=[.lit (.bool true)],args:=ds }:=by rw [List.append_nil]; exact hspec ds (trodAll_length hA)
 refine post_of_below (pa:=p) (pv:=[]) hW' (fun b sp hd=>?_) (fun sp hh=>?_) (fun sp hh=>?_) rfl hb ?_
 ·rw [hsp,hres]
  exact ⟨[],[],⟨1,by simp [DataW.trod,Value.cells,htb]⟩,rfl,rfl⟩
 ·rw [hsp]
  exact all_stays hl hts hA (fun x hx=>hb.same (hlt x hx)) (fun x hx=>hh x (by simpa using hx))
 ·rw [hsp,hv]
  rfl
 ·intro j t r ht hr
  rw [hres] at ht hr
  match j with
  | 0 =>
   simp [Value.resultList] at ht hr
   subst ht; subst hr
   simp [Value.okWide,htb,Cell.okWide,Cell.ok]
  | j+1=>simp at ht
end
end Go.Vc
/- Models of bodies,in passing style; the rules by which a walk follows its model; what is adopted and frozen on the way. -/
set_option linter.unusedSectionVars false
namespace Go.Vc
variable [Tabs]

section
variable {Z A S:Type} {α:Type}
def chk (p:Prop) [Decidable p] (m:Option Z):Option Z:=if p then m else none
def call (a:Option A) (k:A→Option Z):Option Z:=match a with
 | some x=>k x
 | none=>none
def callG (g:Bool) (a:Option A) (d:A) (k:A→Option Z):Option Z:=match g with
 | true=>call a k
 | false=>k d
def idx (l:List α) (i:Int) (k:α→Option Z):Option Z:=if 0≤i then match l[i.toNat]? with
 | some x=>k x
 | none=>none
 else none
def idxS (s:List UInt8) (i:Int) (k:Int→Option Z):Option Z:=if 0≤i then match s[i.toNat]? with
 | some x=>k (x.toNat:Int)
 | none=>none
 else none
def jp (F:S→Option Z) (m:(S→Option Z)→Option Z):Option Z:=m F
def forL:List α→Nat→(Nat→α→S→(S→Option Z)→(S→Option Z)→Option Z)→S→(S→Option Z)→Option Z
 | [],_,_,s,k=>k s
 | x::l,i,f,s,k=>f i x s (fun s'=>forL l (i+1) f s' k) k
def forC:Nat→Nat→(Nat→S→(S→Option Z)→(S→Option Z)→Option Z)→S→(S→Option Z)→Option Z
 | 0,_,_,s,k=>k s
 | n+1,i,f,s,k=>f i s (fun s'=>forC n (i+1) f s' k) k
def loopN:Nat→(S→(S→Option Z)→(S→Option Z)→Option Z)→S→(S→Option Z)→Option Z
 | 0,_,_,_=>none
 | n+1,f,s,k=>f s (fun s'=>loopN n f s' k) k
def Fuel:Nat:=1099511627776
abbrev Str:=List UInt8
def bytesOf (s:Str):List Int:=s.map fun b=>(b.toNat:Int)
def strOf (l:List Int):Str:=l.map fun n=>UInt8.ofNat n.toNat

theorem chk_elim {z:Z} {p:Prop} [Decidable p] {m:Option Z} (h:chk p m=some z):p∧m=some z:=by
 unfold chk at h
 split at h
 ·exact ⟨by assumption,h⟩
 ·cases h
theorem call_elim {z:Z} {a:Option A} {k:A→Option Z} (h:call a k=some z):∃ x,a=some x∧k x=some z:=by
 cases a with
 | none=>cases h
 | some x=>exact ⟨x,rfl,h⟩
theorem callG_elim {z:Z} {g:Bool} {a:Option A} {d:A} {k:A→Option Z} (h:callG g a d k=some z):∃ x,(g=true→a=some x)∧k x=some z:=by
 cases g with
 | true=>obtain ⟨x,h1,h2⟩:=call_elim h; exact ⟨x,fun _=>h1,h2⟩
 | false=>exact ⟨d,fun e=>Bool.noConfusion e,h⟩
theorem brT {z:Z} {c:Bool} {x y:Option Z} (h:(bif c then x else y)=some z) (hc:c=true):x=some z:=by rw [hc] at h; exact h
theorem brF {z:Z} {c:Bool} {x y:Option Z} (h:(bif c then x else y)=some z) (hc:c=false):y=some z:=by rw [hc] at h; exact h
theorem idx_elim {z:Z} {l:List α} {i:Int} {k:α→Option Z} (h:idx l i k=some z) :
  ∃ x,(0≤i∧i < (l.length:Int))∧(∀ (e:α→List Dt) (d:List Dt),(l.map e).getD i.toNat d=e x)∧l[i.toNat]?=some x∧k x=some z:=by
 unfold idx at h
 split at h
 rotate_left
 ·cases h
 split at h
 ·rename_i x hx
  have:=(List.getElem?_eq_some_iff.1 hx).1
  exact ⟨x,⟨by assumption,by omega⟩,fun e d=>by simp [List.getD_eq_getElem?_getD,hx],hx,h⟩
 ·cases h
theorem idxS_elim {z:Z} {s:List UInt8} {i:Int} {k:Int→Option Z} (h:idxS s i k=some z) :
  ∃ c,(0≤i∧i < (s.length:Int))∧(((s.getD i.toNat 0).toNat:Int)=c)∧k c=some z:=by
 unfold idxS at h
 split at h
 rotate_left
 ·cases h
 split at h
 ·rename_i x hx
  have:=(List.getElem?_eq_some_iff.1 hx).1
  exact ⟨_,⟨by assumption,by omega⟩,by simp [List.getD_eq_getElem?_getD,hx],h⟩
 ·cases h
theorem jp_elim {z:Z} {F:S→Option Z} {m:(S→Option Z)→Option Z} (h:jp F m=some z):∃ k,(∀ s,k s=some z→F s=some z)∧m k=some z:=⟨F,fun _ h=>h,h⟩
theorem forL_cont {z:Z} {l:List α} {i:Nat} {f:Nat→α→S→(S→Option Z)→(S→Option Z)→Option Z} {s:S} {F:S→Option Z} (h:forL l i f s F=some z):∃ k,(∀ s,k s=some z→F s=some z)∧forL l i f s k=some z:=⟨F,fun _ h=>h,h⟩
theorem forC_cont {z:Z} {n i:Nat} {f:Nat→S→(S→Option Z)→(S→Option Z)→Option Z} {s:S} {F:S→Option Z} (h:forC n i f s F=some z):∃ k,(∀ s,k s=some z→F s=some z)∧forC n i f s k=some z:=⟨F,fun _ h=>h,h⟩
theorem loopN_cont {z:Z} {n:Nat} {f:S→(S→Option Z)→(S→Option Z)→Option Z} {s:S} {F:S→Option Z} (h:loopN n f s F=some z):∃ k,(∀ s,k s=some z→F s=some z)∧loopN n f s k=some z:=⟨F,fun _ h=>h,h⟩
theorem forL_step {z:Z} {l:List α} {i:Nat} {f:Nat→α→S→(S→Option Z)→(S→Option Z)→Option Z} {s:S} {k:S→Option Z} (h:forL (l.drop i) i f s k=some z) (hi:i < l.length) :
  ∃ x nx,(∀ (e:α→List Dt) (d:List Dt),(l.map e).getD i d=e x)∧(∀ d,l.getD i d=x)∧(∀ s',nx s'=some z→forL (l.drop (i+1)) (i+1) f s' k=some z)∧f i x s nx k=some z:=by
 rw [List.drop_eq_getElem_cons hi] at h
 exact ⟨l[i],fun s'=>forL (l.drop (i+1)) (i+1) f s' k,fun e d=>by simp [List.getD_eq_getElem?_getD,hi],fun d=>by simp [List.getD_eq_getElem?_getD,hi],fun _ h=>h,h⟩
theorem forL_end {z:Z} {l:List α} {i:Nat} {f:Nat→α→S→(S→Option Z)→(S→Option Z)→Option Z} {s:S} {k:S→Option Z} (h:forL (l.drop i) i f s k=some z) (hi:¬ i < l.length):k s=some z:=by
 rw [List.drop_eq_nil_of_le (by omega)] at h
 exact h
theorem forC_step {z:Z} {n i:Nat} {f:Nat→S→(S→Option Z)→(S→Option Z)→Option Z} {s:S} {k:S→Option Z} (h:forC (n - i) i f s k=some z) (hi:i < n) :
  ∃ nx,(∀ s',nx s'=some z→forC (n - (i+1)) (i+1) f s' k=some z)∧f i s nx k=some z:=by
 rw [show n - i=(n - (i+1))+1 by omega] at h
 exact ⟨_,fun _ h=>h,h⟩
theorem forC_end {z:Z} {n i:Nat} {f:Nat→S→(S→Option Z)→(S→Option Z)→Option Z} {s:S} {k:S→Option Z} (h:forC (n - i) i f s k=some z) (hi:¬ i < n):k s=some z:=by
 rw [show n - i=0 by omega] at h
 exact h
theorem getD_enc {l:List α} {e:α→List Dt} {d:α} {i:Nat}:(l.map e).getD i (e d)=e (l.getD i d):=by
 simp only [List.getD_eq_getElem?_getD,List.getElem?_map]
 cases l[i]? <;> rfl
theorem getD_encB {l:List α} {e:α→List Dt} {d:α} {i:Nat} (hi:i < l.length) (z:List Dt):(l.map e).getD i z=e (l.getD i d):=by
 simp [List.getD_eq_getElem?_getD,hi]
theorem take_map' {β:Type} (n:Nat) (f:α→β) (l:List α):(l.map f).take n=(l.take n).map f:=by rw [List.map_take]
theorem drop_map' {β:Type} (n:Nat) (f:α→β) (l:List α):(l.map f).drop n=(l.drop n).map f:=by rw [List.map_drop]
theorem append_map' {β:Type} (f:α→β) (a b:List α):a.map f++b.map f=(a++b).map f:=by rw [List.map_append]
theorem data_mk (l:List UInt8):(ByteArray.mk l.toArray).data.toList=l:=by simp
theorem data_nil:((⟨#[]⟩:ByteArray).data.toList:List UInt8)=[]:=rfl
theorem lt_nat {i n:Nat} (h:decide ((i:Int) < (n:Int))=true):i < n:=by simpa using h
theorem ge_nat {i n:Nat} (h:decide ((i:Int) < (n:Int))=false):¬ i < n:=by simpa using h
theorem wrap_succ {i n:Nat} (h:i < n) (hn:n≤274877906944):IntKind.i64.wrap ((i:Int)+1)=((i+1:Nat):Int):=by rw [wrap64 (by omega) (by omega)]; omega
end

section
variable {P:Program} {kl:List Bool} {n:Nat} {B:Bs} {Q:Qt} {E:Env} {H:List Ob}
theorem Wp.regD {id:Nat} {os:List Oper} (plan:Plan) (hm:P.follows .mixedOrders=true) (hl:plan.length=os.length) (hp:planB os.toArray plan [] (Array.replicate os.length false)=true)
  (h:∀ K:Env→List Ob→Prop,(∀ E H,Q .normal E H→K E H)→RdEnd P kl n B os.toArray K (runD P kl n os plan ⟨[],E,H,True⟩)):Wp P kl n B (.region id os.toArray true) Q E H :=
 Wp.regionD plan hm hl hp fun K' hK'=>Dr.run (h K' fun E' H' hy=>hK' E' H' hy)
end
section
variable {P:Program} {kl:List Bool} {n:Nat} {B:Bs} {Q:Qt} {E:Env} {H:List Ob}
theorem Wp.seqW {x y:Code} (h:∀ K:Env→List Ob→Prop,(∀ E H,Wp P kl n B y Q E H→K E H)→(∀ E H E' H',Weak kl E H E' H'→K E' H'→K E H)→Wp P kl n B x (thenQ K Q) E H):Wp P kl n B (.seq x y) Q E H:=by
 intro hB a w hR
 refine wp_seq (wp_mono (h _ (fun _ _ h=>h) (fun _ _ _ _ hw h=>Wp.weak hw h) hB a w hR) ?_)
 intro e a' w' ⟨E',H',hq,hR'⟩
 cases e <;> first | exact hq hB a' w' hR' | exact ⟨E',H',hq,hR'⟩
theorem Wp.forL {Z S α:Type} {z:Z} {f:Nat→α→S→(S→Option Z)→(S→Option Z)→Option Z} {k:S→Option Z} {l:List α} {c:Code} {s0:S} (live:Nat→S→Env) (objs:Nat→S→List Ob) (h0:Weak kl E H (live 0 s0) (objs 0 s0)) (hm:Vc.forL l 0 f s0 k=some z)
  (round:∀ (i:Nat) (s:S),i≤l.length→Vc.forL (l.drop i) i f s k=some z→Wp P kl n B c (thenQ (fun E' H'=>∃ s',i < l.length∧Vc.forL (l.drop (i+1)) (i+1) f s' k=some z∧Weak kl E' H' (live (i+1) s') (objs (i+1) s')) Q) (live i s) (objs i s)):Wp P kl n B (.loop c) Q E H:=by
 refine Wp.loop (S:=Nat × S) (fun t=>live t.1 t.2) (fun t=>objs t.1 t.2) (fun t=>t.1≤l.length∧Vc.forL (l.drop t.1) t.1 f t.2 k=some z) (fun t=>l.length - t.1) (0,s0) h0 ⟨Nat.zero_le _,hm⟩ fun t ⟨h1,h2⟩=>(round t.1 t.2 h1 h2).mono fun e E' H' h=>?_
 cases e with
 | normal=>obtain ⟨s',h3,h4,h5⟩:=h; exact ⟨(t.1+1,s'),⟨h3,h4⟩,by simp only; omega,h5⟩
 | _=>exact h
theorem Wp.forC {Z S:Type} {z:Z} {f:Nat→S→(S→Option Z)→(S→Option Z)→Option Z} {k:S→Option Z} {m:Nat} {c:Code} {s0:S} (live:Nat→S→Env) (objs:Nat→S→List Ob) (h0:Weak kl E H (live 0 s0) (objs 0 s0)) (hm:Vc.forC m 0 f s0 k=some z)
  (round:∀ (i:Nat) (s:S),i≤m→Vc.forC (m - i) i f s k=some z→Wp P kl n B c (thenQ (fun E' H'=>∃ s',i < m∧Vc.forC (m - (i+1)) (i+1) f s' k=some z∧Weak kl E' H' (live (i+1) s') (objs (i+1) s')) Q) (live i s) (objs i s)):Wp P kl n B (.loop c) Q E H:=by
 refine Wp.loop (S:=Nat × S) (fun t=>live t.1 t.2) (fun t=>objs t.1 t.2) (fun t=>t.1≤m∧Vc.forC (m - t.1) t.1 f t.2 k=some z) (fun t=>m - t.1) (0,s0) h0 ⟨Nat.zero_le _,hm⟩ fun t ⟨h1,h2⟩=>(round t.1 t.2 h1 h2).mono fun e E' H' h=>?_
 cases e with
 | normal=>obtain ⟨s',h3,h4,h5⟩:=h; exact ⟨(t.1+1,s'),⟨h3,h4⟩,by simp only; omega,h5⟩
 | _=>exact h
theorem Wp.loopN {Z S:Type} {z:Z} {f:S→(S→Option Z)→(S→Option Z)→Option Z} {k:S→Option Z} {m:Nat} {c:Code} {s0:S} (live:S→Env) (objs:S→List Ob) (h0:Weak kl E H (live s0) (objs s0)) (hm:Vc.loopN m f s0 k=some z)
  (round:∀ (s:S) (nx:S→Option Z),f s nx k=some z→Wp P kl n B c (thenQ (fun E' H'=>∃ s',nx s'=some z∧Weak kl E' H' (live s') (objs s')) Q) (live s) (objs s)):Wp P kl n B (.loop c) Q E H:=by
 refine Wp.loop (S:=Nat × S) (fun t=>live t.2) (fun t=>objs t.2) (fun t=>Vc.loopN t.1 f t.2 k=some z) (fun t=>t.1) (m,s0) h0 hm fun t ht=>?_
 obtain ⟨i,s⟩:=t
 cases i with
 | zero=>cases ht
 | succ i =>
  refine (round s (fun s'=>Vc.loopN i f s' k) ht).mono fun e E' H' h=>?_
  cases e with
  | normal=>obtain ⟨s',h3,h4⟩:=h; exact ⟨(i,s'),h3,Nat.lt_succ_self _,h4⟩
  | _=>exact h
def WpL (P:Program) (kl:List Bool) (n:Nat) (B:Bs) (c:Code) (Q:Qt):Nat→Env→List Ob→Prop
 | 0,_,_=>False
 | m+1,E,H=>Wp P kl n B c (thenQ (WpL P kl n B c Q m) Q) E H
theorem Wp.loopK {c:Code} (m:Nat) (h:WpL P kl n B c Q m E H):Wp P kl n B (.loop c) Q E H:=by
 intro hB a w hR
 refine wp_loop_rounds m ?_
 induction m generalizing E H a w with
 | zero=>exact h.elim
 | succ m ih =>
  rw [rounds_succ]
  refine wp_mono (h hB a w hR) ?_
  intro e a' w' ⟨E',H',hq,hR'⟩
  cases e with
  | normal=>exact ih hq a' w' hR'
  | _=>exact ⟨E',H',hq,hR'⟩

theorem Wp.adopt {c:Code} (slot:Nat) (T:TypeId) (sz:Nat) (h:eget E slot=.nils) (hc:Wp P kl n B c Q ((slot,.buf H.length)::E) (H++[.buf T sz []])):Wp P kl n B c Q E H:=by
 intro hB a w hR
 have hv:a.tmps.getD slot undef=.slice none 0 0:=by
  obtain ⟨K,G,_,_,hE,_⟩:=hR
  have:=hE slot
  rw [h] at this
  simpa only [VR] using this
 obtain ⟨K,G,h1,h2,h3,h4,h5,h6,h7⟩:=push_none hR T sz
 refine hc hB a w ⟨K,G,h1,h2,fun m=>?_,h4,h5,h6⟩
 simp only [eget]
 split
 ·rename_i e; subst e; rw [hv]; exact h7
 ·exact h3 m
theorem Wp.adoptF {c:Code} (slot:Nat) (T:TypeId) (sz:Nat) (h:eget E slot=.full []) (hc:Wp P kl n B c Q ((slot,.buf H.length)::E) (H++[.buf T sz []])):Wp P kl n B c Q E H:=by
 intro hB a w hR
 have hv:∃ ad,a.tmps.getD slot undef=.slice ad 0 0:=by
  obtain ⟨K,G,_,_,hE,_⟩:=hR
  have:=hE slot
  rw [h] at this
  simp only [VR] at this
  exact this.2
 obtain ⟨ad,hv⟩:=hv
 obtain ⟨K,G,h1,h2,h3,h4,h5,h6,h7⟩:=push_empty hR ad T sz
 refine hc hB a w ⟨K,G,h1,h2,fun m=>?_,h4,h5,h6⟩
 simp only [eget]
 split
 ·rename_i e; subst e; rw [hv]; exact h7
 ·exact h3 m
theorem Wp.adoptX {c:Code} (o off:Nat) (X:Ob) (hX:∀ K h G,ObR K h G ⟨none,.slice none 0 0,[]⟩ X) {T0:TypeId} {vs:List Va} (ho:obAt H o=.cells T0 vs) (h:vs[off]?=some .nils) (hc:Wp P kl n B c Q E (H.set o (.cells T0 (vs.set off (.buf H.length)))++[X])):Wp P kl n B c Q E H:=by
 intro hB a w hR
 obtain ⟨K,G,h1,h2,h3,h4,h5,h6,h7⟩:=push_noneX hR X hX
 have hoH:=obAt_some ho (by simp)
 have hol:=(List.getElem?_eq_some_iff.1 hoH).1
 have ho':(H++[X])[o]?=some (.cells T0 vs):=by rw [List.getElem?_append_left hol]; exact hoH
 have hlen:=h2.len
 refine hc hB a w ⟨K,G,h1,⟨by simpa using hlen,h2.kb,h2.gbo,h2.ijo,fun i g x hg hx=>?_,h2.tb⟩,h3,h4,h5,fun i hi=>?_⟩
 ·by_cases e:i=o
  ·subst e
   rw [List.getElem?_append_left (by simpa using hol),List.getElem?_set_self hol] at hx
   cases hx
   obtain ⟨b,cs,r1,r2,r3⟩:=h2.ob i g _ hg ho'
   refine ⟨b,cs,r1,r2,?_⟩
   obtain ⟨c0,hc0,hv0⟩:=r3.get off _ h
   simp only [VR] at hv0
   subst hv0
   have:=r3.set h7 off
   rwa [show cs.set off (.slice none 0 0)=cs by
    apply List.ext_getElem?
    intro j
    by_cases hj:off=j
    ·subst hj; rw [List.getElem?_set_self (List.getElem?_eq_some_iff.1 hc0).1,hc0]
    ·rw [List.getElem?_set_ne hj]] at this
  ·refine h2.ob i g x hg ?_
   rw [← hx]
   simp only [List.getElem?_append,List.length_set,List.getElem?_set_ne (Ne.symm e)]
 ·obtain ⟨vs',hvs',hkt⟩:=h6 i hi
  by_cases e:i=o
  ·subst e
   exact ⟨_,by rw [List.getElem?_append_left (by simpa using hol),List.getElem?_set_self hol],rfl⟩
  ·refine ⟨vs',?_,hkt⟩
   rw [← hvs']
   simp only [List.getElem?_append,List.length_set,List.getElem?_set_ne (Ne.symm e)]
theorem Wp.adoptO {c:Code} (o off:Nat) (T:TypeId) (sz:Nat) {T0:TypeId} {vs:List Va} (ho:obAt H o=.cells T0 vs) (h:vs[off]?=some .nils) (hc:Wp P kl n B c Q E (H.set o (.cells T0 (vs.set off (.buf H.length)))++[.buf T sz []])):Wp P kl n B c Q E H :=
 Wp.adoptX o off (.buf T sz []) (fun _ _ _=>⟨by simp,[],by simp [DRss],.inl ⟨⟨none,rfl⟩,rfl,rfl⟩⟩) ho h hc
theorem Wp.adoptS {c:Code} (o off:Nat) (T:TypeId) {T0:TypeId} {vs:List Va} (ho:obAt H o=.cells T0 vs) (h:vs[off]?=some .nils) (hc:Wp P kl n B c Q E (H.set o (.cells T0 (vs.set off (.buf H.length)))++[.sb T []])):Wp P kl n B c Q E H :=
 Wp.adoptX o off (.sb T []) (fun _ _ _=>⟨by simp,.inl ⟨rfl,rfl,rfl⟩⟩) ho h hc
theorem obAt_of:∀ {H:List Ob} {o:Nat} {x:Ob},H[o]?=some x→obAt H o=x
 | [],_,_,h=>by simp at h
 | y::l,0,x,h=>by simpa [obAt] using h
 | y::l,n+1,x,h=>by simp only [obAt]; exact obAt_of (by simpa using h)
theorem Wp.cellW {c:Code} (o off:Nat) (v':Va) {v:Va} {T0:TypeId} {vs:List Va} (ho:obAt H o=.cells T0 vs) (h:vs[off]?=some v) (hl:leV v v') (hc:Wp P kl n B c Q E (H.set o (.cells T0 (vs.set off v')))):Wp P kl n B c Q E H:=by
 intro hB a w ⟨K,G,h1,h2,h3,h4,h5,h6⟩
 have hoH:=obAt_some ho (by simp)
 have hol:=(List.getElem?_eq_some_iff.1 hoH).1
 refine hc hB a w ⟨K,G,h1,⟨by simpa using h2.len,h2.kb,h2.gbo,h2.ijo,fun i g x hg hx=>?_,h2.tb⟩,h3,h4,h5,fun i hi=>?_⟩
 ·by_cases e:i=o
  ·subst e
   rw [List.getElem?_set_self hol] at hx
   cases hx
   obtain ⟨b,cs,r1,r2,r3⟩:=h2.ob i g _ hg hoH
   refine ⟨b,cs,r1,r2,?_⟩
   obtain ⟨c0,hc0,hv0⟩:=r3.get off _ h
   have:=r3.set (leV_ok hl hv0) off
   rwa [show cs.set off c0=cs by
    apply List.ext_getElem?
    intro j
    by_cases hj:off=j
    ·subst hj; rw [List.getElem?_set_self (List.getElem?_eq_some_iff.1 hc0).1,hc0]
    ·rw [List.getElem?_set_ne hj]] at this
  ·rw [List.getElem?_set_ne (Ne.symm e)] at hx
   exact h2.ob i g x hg hx
 ·obtain ⟨vs',hvs',hkt⟩:=h6 i hi
  by_cases e:i=o
  ·subst e
   exact ⟨_,List.getElem?_set_self hol,rfl⟩
  ·exact ⟨vs',by rw [List.getElem?_set_ne (Ne.symm e)]; exact hvs',hkt⟩
theorem Wp.adoptB {c:Code} (o:Nat) (T:TypeId) {T0:TypeId} (ho:obAt H o=.cells T0 [.nil,.nils]) (hc:Wp P kl n B c Q E (H.set o (.cells T0 [.np o,.buf H.length])++[.sb T []])):Wp P kl n B c Q E H:=by
 refine Wp.adoptS o 1 T ho rfl ?_
 have hol:=(List.getElem?_eq_some_iff.1 (obAt_some ho (by simp))).1
 refine Wp.cellW o 0 (.np o) (T0:=T0) (vs:=[.nil,.buf H.length]) (v:=.nil) ?_ rfl trivial ?_
 ·refine obAt_of ?_
  rw [List.getElem?_append_left (by simpa using hol),List.getElem?_set_self hol]
  rfl
 ·simpa [List.set_append,hol] using hc
end
theorem szOk_nil (n:Nat):szOk n []=True:=eq_true (fun _ h=>by cases h)
theorem szOk_cons (n:Nat) (r:List Dt) (rs:List (List Dt)):szOk n (r::rs)=(r.length=n∧szOk n rs):=by
 apply propext
 constructor
 ·intro h; exact ⟨h r (by simp),fun x hx=>h x (by simp [hx])⟩
 ·rintro ⟨h1,h2⟩ x hx
  rcases List.mem_cons.1 hx with rfl | hx
  ·exact h1
  ·exact h2 x hx
attribute [go_sem] szOk_nil szOk_cons data_nil data_mk zr isB Option.some.injEq
end Go.Vc
/- Calls that are handed objects: pointers,closures over variables,slices that grow,maps. What is frozen on the way. -/
set_option linter.unusedSectionVars false
namespace Go.Vc
variable [Tabs]

def rnI:List Nat→Nat→Option Nat
 | [],_=>none
 | i::ids,o=>if i=o then some 0 else match rnI ids o with
  | some j=>some (j+1)
  | none=>none
def bkI:List Nat→Nat→Nat→Nat
 | [],base,j=>base+j
 | i::_,_,0=>i
 | _::ids,base,j+1=>bkI ids base j
mutual
def rnC (ids:List Nat):Va→Option Va
 | .ptr o a=>match rnI ids o with
  | some j=>some (.ptr j a)
  | none=>none
 | .cs o a=>match rnI ids o with
  | some j=>some (.cs j a)
  | none=>none
 | .el o s i a=>match rnI ids o with
  | some j=>some (.el j s i a)
  | none=>none
 | .buf o=>match rnI ids o with
  | some j=>some (.buf j)
  | none=>none
 | .mp o=>match rnI ids o with
  | some j=>some (.mp j)
  | none=>none
 | .np o=>match rnI ids o with
  | some j=>some (.np j)
  | none=>none
 | .sd o=>match rnI ids o with
  | some j=>some (.sd j)
  | none=>none
 | .vw o s a n=>match rnI ids o with
  | some j=>some (.vw j s a n)
  | none=>none
 | .bufc o s=>match rnI ids o with
  | some j=>some (.bufc j s)
  | none=>none
 | .nv o i=>match rnI ids o with
  | some j=>some (.nv j i)
  | none=>none
 | .ne o s i j0 a=>match rnI ids o with
  | some j=>some (.ne j s i j0 a)
  | none=>none
 | .fn f vs=>match rnCs ids vs with
  | some us=>some (.fn f us)
  | none=>none
 | .agg vs=>match rnCs ids vs with
  | some us=>some (.agg us)
  | none=>none
 | .tup vs=>match rnCs ids vs with
  | some us=>some (.tup us)
  | none=>none
 | .cnd _ _=>none
 | v=>some v
def rnCs (ids:List Nat):List Va→Option (List Va)
 | []=>some []
 | v::vs=>match rnC ids v,rnCs ids vs with
  | some u,some us=>some (u::us)
  | _,_=>none
end
mutual
def rnA (ids:List Nat):Va→Option Va
 | .nils=>some (.p (.l []))
 | .full r=>some (.p (.l r))
 | .agg vs=>match rnAs ids vs with
  | some us=>some (.agg us)
  | none=>none
 | v=>rnC ids v
def rnAs (ids:List Nat):List Va→Option (List Va)
 | []=>some []
 | v::vs=>match rnA ids v,rnAs ids vs with
  | some u,some us=>some (u::us)
  | _,_=>none
end
def rnO (ids:List Nat):Ob→Option Ob
 | .cells T vs=>match rnCs ids vs with
  | some us=>some (.cells T us)
  | none=>none
 | .it _ _ _=>none
 | .nst f T sz k p rows st=>match rnI ids p with
  | some j=>some (.nst f T sz k j rows st)
  | none=>none
 | x=>some x
def subH (ids:List Nat) (H:List Ob):List Nat→Option (List Ob)
 | []=>some []
 | i::is=>match rnO ids (obAt H i),subH ids H is with
  | some x,some X=>some (x::X)
  | _,_=>none
mutual
def bkV (ids:List Nat) (base:Nat):Va→Va
 | .ptr o a=>.ptr (bkI ids base o) a
 | .cs o a=>.cs (bkI ids base o) a
 | .el o s i a=>.el (bkI ids base o) s i a
 | .buf o=>.buf (bkI ids base o)
 | .mp o=>.mp (bkI ids base o)
 | .np o=>.np (bkI ids base o)
 | .sd o=>.sd (bkI ids base o)
 | .vw o s a n=>.vw (bkI ids base o) s a n
 | .bufc o s=>.bufc (bkI ids base o) s
 | .nv o i=>.nv (bkI ids base o) i
 | .ne o s i j a=>.ne (bkI ids base o) s i j a
 | .fn f vs=>.fn f (bkVs ids base vs)
 | .agg vs=>.agg (bkVs ids base vs)
 | .tup vs=>.tup (bkVs ids base vs)
 | .cnd _ _=>.top
 | v=>v
def bkVs (ids:List Nat) (base:Nat):List Va→List Va
 | []=>[]
 | v::vs=>bkV ids base v::bkVs ids base vs
end
def bkO (ids:List Nat) (base:Nat):Ob→Ob
 | .cells T vs=>.cells T (bkVs ids base vs)
 | .it _ _ _=>.gone
 | .nst f T sz k p rows st=>.nst f T sz k (bkI ids base p) rows st
 | x=>x
def bkOs (ids:List Nat) (base:Nat):List Ob→List Ob
 | []=>[]
 | x::X=>bkO ids base x::bkOs ids base X
def setL {α:Type}:List α→List Nat→List α→List α
 | H,i::ids,x::X=>setL (H.set i x) ids X
 | H,[],X=>H++X
 | H,_::_,[]=>H
def idsOk (m:Nat):List Nat→Bool
 | []=>true
 | i::ids=>decide (i < m) && !(ids.contains i) && idsOk m ids
def keepF (ids:List Nat) (H:List Ob) (o:Nat):Bool:=!(ids.contains o && !(obAt H o).kept)

theorem rnI_some:∀ {ids:List Nat} {o j:Nat},rnI ids o=some j→ids[j]?=some o
 | [],_,_,h=>by simp [rnI] at h
 | i::ids,o,j,h=>by
  simp only [rnI] at h
  split at h
  ·cases h; rename_i e; simp [e]
  ·split at h
   ·rename_i j' hj
    cases h
    simpa using rnI_some hj
   ·cases h
theorem idsOk_spec {m:Nat}:∀ {ids:List Nat},idsOk m ids=true→ids.Nodup∧∀ i ∈ ids,i < m
 | [],_=>by simp
 | i::ids,h=>by
  simp only [idsOk,Bool.and_eq_true,decide_eq_true_eq,Bool.not_eq_true',List.contains_eq_mem,decide_eq_false_iff_not] at h
  obtain ⟨h1,h2⟩:=idsOk_spec h.2
  refine ⟨List.nodup_cons.2 ⟨h.1.2,h1⟩,fun j hj=>?_⟩
  rcases List.mem_cons.1 hj with rfl | hj
  ·exact h.1.1
  ·exact h2 j hj
theorem bkI_lt:∀ {ids:List Nat} {base j i:Nat},ids[j]?=some i→bkI ids base j=i
 | [],_,_,_,h=>by simp at h
 | i::ids,base,0,k,h=>by simp at h; simp [bkI,h]
 | i::ids,base,j+1,k,h=>by simp only [bkI]; exact bkI_lt (by simpa using h)
theorem bkI_ge:∀ {ids:List Nat} {base j:Nat},ids.length≤j→bkI ids base j=base+(j - ids.length)
 | [],_,_,_=>by simp [bkI]
 | i::ids,base,0,h=>by simp at h
 | i::ids,base,j+1,h=>by simp only [bkI,List.length_cons]; rw [bkI_ge (by simpa using h)]; omega

theorem setL_length {α:Type}:∀ {ids:List Nat} {H X:List α},ids.length≤X.length→(setL H ids X).length=H.length+(X.length - ids.length)
 | [],H,X,_=>by simp [setL]
 | i::ids,H,x::X,h=>by simp only [setL]; rw [setL_length (by simpa using h)]; simp
 | i::ids,H,[],h=>by simp at h
theorem setL_old {α:Type}:∀ {ids:List Nat} {H X:List α} {o:Nat},o ∉ ids→o < H.length→(setL H ids X)[o]?=H[o]?
 | [],H,X,o,_,h=>by simp only [setL]; rw [List.getElem?_append_left h]
 | i::ids,H,x::X,o,hn,h=>by
  simp only [setL]
  rw [setL_old (fun h=>hn (by simp [h])) (by simpa using h),List.getElem?_set_ne (fun e=>hn (by simp [e]))]
 | i::ids,H,[],o,_,_=>rfl
theorem setL_hit {α:Type}:∀ {ids:List Nat} {H X:List α} {j i:Nat},ids.Nodup→(∀ i ∈ ids,i < H.length)→ids.length≤X.length→ids[j]?=some i→(setL H ids X)[i]?=X[j]?
 | [],_,_,_,_,_,_,_,h=>by simp at h
 | i::ids,H,[],_,_,_,_,hl,_=>by simp at hl
 | i::ids,H,x::X,0,k,hn,hlt,_,h=>by
  simp at h
  subst h
  simp only [setL]
  rw [setL_old (List.nodup_cons.1 hn).1 (by simpa using hlt i (by simp)),List.getElem?_set_self (hlt i (by simp))]
  rfl
 | i::ids,H,x::X,j+1,k,hn,hlt,hl,h=>by
  simp only [setL]
  rw [setL_hit (List.nodup_cons.1 hn).2 (fun q hq=>by simpa using hlt q (by simp [hq])) (by simpa using hl) (by simpa using h)]
  rfl
theorem setL_new {α:Type}:∀ {ids:List Nat} {H X:List α} {j:Nat},ids.length≤j→(setL H ids X)[H.length+(j - ids.length)]?=X[j]?
 | [],H,X,j,_=>by simp only [setL]; rw [List.getElem?_append_right (by omega)]; simp
 | i::ids,H,[],j,_=>by simp only [setL]; rw [List.getElem?_eq_none (by omega)]; rfl
 | i::ids,H,x::X,0,h=>by simp at h
 | i::ids,H,x::X,j+1,h=>by
  simp only [setL]
  have:=setL_new (H:=H.set i x) (X:=X) (ids:=ids) (j:=j) (by simpa using h)
  rw [List.length_set] at this
  simpa using this
theorem setL_cases {α:Type} {ids:List Nat} {H X:List α} {o:Nat} {y:α} (hn:ids.Nodup) (hlt:∀ i ∈ ids,i < H.length) (hl:ids.length≤X.length) (h:(setL H ids X)[o]?=some y) :
  (∃ j:Nat,ids[j]?=some o∧X[j]?=some y) ∨ (o ∉ ids∧o < H.length∧H[o]?=some y) ∨ (∃ j:Nat,ids.length≤j∧o=H.length+(j - ids.length)∧X[j]?=some y):=by
 by_cases ho:o ∈ ids
 ·obtain ⟨j,hj⟩:=List.getElem?_of_mem ho
  exact .inl ⟨j,hj,by rw [← setL_hit hn hlt hl hj]; exact h⟩
 ·rcases Nat.lt_or_ge o H.length with h1 | h1
  ·exact .inr (.inl ⟨ho,h1,by rw [← setL_old ho h1]; exact h⟩)
  ·refine .inr (.inr ⟨o - H.length+ids.length,by omega,by omega,?_⟩)
   rw [← setL_new (H:=H) (X:=X) (j:=o - H.length+ids.length) (ids:=ids) (by omega)]
   rw [show H.length+(o - H.length+ids.length - ids.length)=o by omega]
   exact h

section
variable {K:Nat→Prop} {h:Array Obj} {G G1:List Gh} {ids:List Nat} {base:Nat}
mutual
theorem rnC_ok (hG:∀ (j o:Nat),ids[j]?=some o→G1[j]?=G[o]?):∀ {c:Value} {v u:Va},rnC ids v=some u→VR K h G c v→VR K h G1 c u
 | c,.p x,u,hp,hv=>by simp only [rnC] at hp; cases hp; simpa only [VR] using hv
 | c,.nils,u,hp,hv=>by simp only [rnC] at hp; cases hp; simpa only [VR] using hv
 | c,.full rows,u,hp,hv=>by simp only [rnC] at hp; cases hp; simpa only [VR] using hv
 | c,.rp row,u,hp,hv=>by simp only [rnC] at hp; cases hp; simpa only [VR] using hv
 | c,.nil,u,hp,hv=>by simp only [rnC] at hp; cases hp; simpa only [VR] using hv
 | c,.raw v,u,hp,hv=>by simp only [rnC] at hp; cases hp; simpa only [VR] using hv
 | c,.er v,u,hp,hv=>by simp only [rnC] at hp; cases hp; simpa only [VR] using hv
 | c,.top,u,hp,hv=>by simp only [rnC] at hp; cases hp; simp [VR]
 | c,.ptr o a,u,hp,hv=>by
  simp only [rnC] at hp
  split at hp
  ·rename_i j hj; cases hp; simp only [VR] at *; obtain ⟨g,b,h1,h2⟩:=hv; exact ⟨g,b,by rw [hG j o (rnI_some hj)]; exact h1,h2⟩
  ·cases hp
 | c,.cs o a,u,hp,hv=>by
  simp only [rnC] at hp
  split at hp
  ·rename_i j hj; cases hp; simp only [VR] at *; obtain ⟨g,b,h1,h2⟩:=hv; exact ⟨g,b,by rw [hG j o (rnI_some hj)]; exact h1,h2⟩
  ·cases hp
 | c,.el o s i a,u,hp,hv=>by
  simp only [rnC] at hp
  split at hp
  ·rename_i j hj; cases hp; simp only [VR] at *; obtain ⟨g,b,n,cap,h1,h2⟩:=hv; exact ⟨g,b,n,cap,by rw [hG j o (rnI_some hj)]; exact h1,h2⟩
  ·cases hp
 | c,.buf o,u,hp,hv=>by
  simp only [rnC] at hp
  split at hp
  ·rename_i j hj; cases hp; simp only [VR] at *; obtain ⟨g,h1,h2⟩:=hv; exact ⟨g,by rw [hG j o (rnI_some hj)]; exact h1,h2⟩
  ·cases hp
 | c,.mp o,u,hp,hv=>by
  simp only [rnC] at hp
  split at hp
  ·rename_i j hj; cases hp; simp only [VR] at *; obtain ⟨g,b,h1,h2⟩:=hv; exact ⟨g,b,by rw [hG j o (rnI_some hj)]; exact h1,h2⟩
  ·cases hp
 | c,.np o,u,hp,hv=>by
  simp only [rnC] at hp
  split at hp
  ·rename_i j hj
   cases hp
   simp only [VR] at *
   rcases hv with hv | ⟨g,b,h1,h2⟩
   ·exact .inl hv
   ·exact .inr ⟨g,b,by rw [hG j o (rnI_some hj)]; exact h1,h2⟩
  ·cases hp
 | c,.sd o,u,hp,hv=>by
  simp only [rnC] at hp
  split at hp
  ·rename_i j hj; cases hp; simp only [VR] at *; obtain ⟨g,a,n,cap,h1,h2⟩:=hv; exact ⟨g,a,n,cap,by rw [hG j o (rnI_some hj)]; exact h1,h2⟩
  ·cases hp
 | c,.vw o _ _ _,u,hp,hv=>by
  simp only [rnC] at hp
  split at hp
  ·rename_i j hj; cases hp; simp only [VR] at *; obtain ⟨g,a,n,cap,h1,h2⟩:=hv; exact ⟨g,a,n,cap,by rw [hG j o (rnI_some hj)]; exact h1,h2⟩
  ·cases hp
 | c,.bufc o _,u,hp,hv=>by
  simp only [rnC] at hp
  split at hp
  ·rename_i j hj; cases hp; simp only [VR] at *; obtain ⟨g,a,n,cap,h1,h2⟩:=hv; exact ⟨g,a,n,cap,by rw [hG j o (rnI_some hj)]; exact h1,h2⟩
  ·cases hp
 | c,.nv o _,u,hp,hv=>by
  simp only [rnC] at hp
  split at hp
  ·rename_i j hj; cases hp; simp only [VR] at *; obtain ⟨g,a,n,cap,h1,h2⟩:=hv; exact ⟨g,a,n,cap,by rw [hG j o (rnI_some hj)]; exact h1,h2⟩
  ·cases hp
 | c,.ne o _ _ _ _,u,hp,hv=>by
  simp only [rnC] at hp
  split at hp
  ·rename_i j hj; cases hp; simp only [VR] at *; obtain ⟨g,b,n,cap,h1,h2⟩:=hv; exact ⟨g,b,n,cap,by rw [hG j o (rnI_some hj)]; exact h1,h2⟩
  ·cases hp
 | c,.fn f vs,u,hp,hv=>by
  simp only [rnC] at hp
  split at hp
  ·rename_i us hu; cases hp; simp only [VR] at *; obtain ⟨cs,h1,h2⟩:=hv; exact ⟨cs,h1,rnCs_ok hG hu h2⟩
  ·cases hp
 | c,.agg vs,u,hp,hv=>by
  simp only [rnC] at hp
  split at hp
  ·rename_i us hu; cases hp; simp only [VR] at *; obtain ⟨cs,h1,h2⟩:=hv; exact ⟨cs,h1,rnCs_ok hG hu h2⟩
  ·cases hp
 | c,.tup vs,u,hp,hv=>by
  simp only [rnC] at hp
  split at hp
  ·rename_i us hu; cases hp; simp only [VR] at *; obtain ⟨cs,h1,h2⟩:=hv; exact ⟨cs,h1,rnCs_ok hG hu h2⟩
  ·cases hp
 | c,.cnd _ _,u,hp,_=>by simp [rnC] at hp
theorem rnCs_ok (hG:∀ (j o:Nat),ids[j]?=some o→G1[j]?=G[o]?):∀ {cs:List Value} {vs us:List Va},rnCs ids vs=some us→VRs K h G cs vs→VRs K h G1 cs us
 | cs,[],us,hp,hv=>by simp only [rnCs] at hp; cases hp; simpa only [VRs] using hv
 | cs,v::vs,us,hp,hv=>by
  simp only [rnCs] at hp
  split at hp
  ·rename_i u us' h1 h2
   cases hp
   simp only [VRs] at *
   obtain ⟨c,cs',e1,e2,e3⟩:=hv
   exact ⟨c,cs',e1,rnC_ok hG h1 e2,rnCs_ok hG h2 e3⟩
  ·cases hp
end
mutual
theorem bkV_ok (hG:∀ (j:Nat) (g:Gh),G1[j]?=some g→G[bkI ids base j]?=some g):∀ {c:Value} {v:Va},VR K h G1 c v→VR K h G c (bkV ids base v)
 | c,.p x,hv=>by simpa only [bkV,VR] using hv
 | c,.nils,hv=>by simpa only [bkV,VR] using hv
 | c,.full rows,hv=>by simpa only [bkV,VR] using hv
 | c,.rp row,hv=>by simpa only [bkV,VR] using hv
 | c,.nil,hv=>by simpa only [bkV,VR] using hv
 | c,.raw v,hv=>by simpa only [bkV,VR] using hv
 | c,.er v,hv=>by simpa only [bkV,VR] using hv
 | c,.top,_=>by simp [bkV,VR]
 | c,.ptr o a,hv=>by simp only [bkV,VR] at *; obtain ⟨g,b,h1,h2⟩:=hv; exact ⟨g,b,hG o g h1,h2⟩
 | c,.cs o a,hv=>by simp only [bkV,VR] at *; obtain ⟨g,b,h1,h2⟩:=hv; exact ⟨g,b,hG o g h1,h2⟩
 | c,.el o s i a,hv=>by simp only [bkV,VR] at *; obtain ⟨g,b,n,cap,h1,h2⟩:=hv; exact ⟨g,b,n,cap,hG o g h1,h2⟩
 | c,.buf o,hv=>by simp only [bkV,VR] at *; obtain ⟨g,h1,h2⟩:=hv; exact ⟨g,hG o g h1,h2⟩
 | c,.mp o,hv=>by simp only [bkV,VR] at *; obtain ⟨g,b,h1,h2⟩:=hv; exact ⟨g,b,hG o g h1,h2⟩
 | c,.np o,hv=>by
  simp only [bkV,VR] at *
  rcases hv with hv | ⟨g,b,h1,h2⟩
  ·exact .inl hv
  ·exact .inr ⟨g,b,hG o g h1,h2⟩
 | c,.sd o,hv=>by simp only [bkV,VR] at *; obtain ⟨g,a,n,cap,h1,h2⟩:=hv; exact ⟨g,a,n,cap,hG o g h1,h2⟩
 | c,.vw o _ _ _,hv=>by simp only [bkV,VR] at *; obtain ⟨g,a,n,cap,h1,h2⟩:=hv; exact ⟨g,a,n,cap,hG o g h1,h2⟩
 | c,.bufc o _,hv=>by simp only [bkV,VR] at *; obtain ⟨g,a,n,cap,h1,h2⟩:=hv; exact ⟨g,a,n,cap,hG o g h1,h2⟩
 | c,.nv o _,hv=>by simp only [bkV,VR] at *; obtain ⟨g,a,n,cap,h1,h2⟩:=hv; exact ⟨g,a,n,cap,hG o g h1,h2⟩
 | c,.ne o _ _ _ _,hv=>by simp only [bkV,VR] at *; obtain ⟨g,b,n,cap,h1,h2⟩:=hv; exact ⟨g,b,n,cap,hG o g h1,h2⟩
 | c,.fn f vs,hv=>by simp only [bkV,VR] at *; obtain ⟨cs,h1,h2⟩:=hv; exact ⟨cs,h1,bkVs_ok hG h2⟩
 | c,.agg vs,hv=>by simp only [bkV,VR] at *; obtain ⟨cs,h1,h2⟩:=hv; exact ⟨cs,h1,bkVs_ok hG h2⟩
 | c,.tup vs,hv=>by simp only [bkV,VR] at *; obtain ⟨cs,h1,h2⟩:=hv; exact ⟨cs,h1,bkVs_ok hG h2⟩
 | c,.cnd _ _,_=>by simp [bkV,VR]
theorem bkVs_ok (hG:∀ (j:Nat) (g:Gh),G1[j]?=some g→G[bkI ids base j]?=some g):∀ {cs:List Value} {vs:List Va},VRs K h G1 cs vs→VRs K h G cs (bkVs ids base vs)
 | cs,[],hv=>by simpa only [bkVs,VRs] using hv
 | cs,v::vs,hv=>by
  simp only [bkVs,VRs] at *
  obtain ⟨c,cs',e1,e2,e3⟩:=hv
  exact ⟨c,cs',e1,bkV_ok hG e2,bkVs_ok hG e3⟩
end
mutual
theorem rnA_ok (hG:∀ (j o:Nat),ids[j]?=some o→G1[j]?=G[o]?):∀ {c:Value} {v u:Va},rnA ids v=some u→VR K h G c v→VR K h G1 c u
 | c,.nils,u,hp,hv=>by simp only [rnA] at hp; cases hp; simp only [VR,DR] at *; exact .inl ⟨⟨none,hv⟩,trivial⟩
 | c,.full r,u,hp,hv=>by simp only [rnA] at hp; cases hp; simp only [VR] at *; exact hv.1
 | c,.agg vs,u,hp,hv=>by
  simp only [rnA] at hp
  split at hp
  ·rename_i us h1
   cases hp
   simp only [VR] at *
   obtain ⟨cs,e1,e2⟩:=hv
   exact ⟨cs,e1,rnAs_ok hG h1 e2⟩
  ·cases hp
 | c,.p _,u,hp,hv=>by unfold rnA at hp; exact rnC_ok hG hp hv
 | c,.rp _,u,hp,hv=>by unfold rnA at hp; exact rnC_ok hG hp hv
 | c,.ptr _ _,u,hp,hv=>by unfold rnA at hp; exact rnC_ok hG hp hv
 | c,.cs _ _,u,hp,hv=>by unfold rnA at hp; exact rnC_ok hG hp hv
 | c,.el _ _ _ _,u,hp,hv=>by unfold rnA at hp; exact rnC_ok hG hp hv
 | c,.buf _,u,hp,hv=>by unfold rnA at hp; exact rnC_ok hG hp hv
 | c,.mp _,u,hp,hv=>by unfold rnA at hp; exact rnC_ok hG hp hv
 | c,.np _,u,hp,hv=>by unfold rnA at hp; exact rnC_ok hG hp hv
 | c,.sd _,u,hp,hv=>by unfold rnA at hp; exact rnC_ok hG hp hv
 | c,.bufc _ _,u,hp,hv=>by unfold rnA at hp; exact rnC_ok hG hp hv
 | c,.nv _ _,u,hp,hv=>by unfold rnA at hp; exact rnC_ok hG hp hv
 | c,.ne _ _ _ _ _,u,hp,hv=>by unfold rnA at hp; exact rnC_ok hG hp hv
 | c,.vw _ _ _ _,u,hp,hv=>by unfold rnA at hp; exact rnC_ok hG hp hv
 | c,.fn _ _,u,hp,hv=>by unfold rnA at hp; exact rnC_ok hG hp hv
 | c,.tup _,u,hp,hv=>by unfold rnA at hp; exact rnC_ok hG hp hv
 | c,.nil,u,hp,hv=>by unfold rnA at hp; exact rnC_ok hG hp hv
 | c,.cnd _ _,u,hp,hv=>by unfold rnA at hp; exact rnC_ok hG hp hv
 | c,.raw _,u,hp,hv=>by unfold rnA at hp; exact rnC_ok hG hp hv
 | c,.er _,u,hp,hv=>by unfold rnA at hp; exact rnC_ok hG hp hv
 | c,.top,u,hp,hv=>by unfold rnA at hp; exact rnC_ok hG hp hv
theorem rnAs_ok (hG:∀ (j o:Nat),ids[j]?=some o→G1[j]?=G[o]?):∀ {cs:List Value} {vs us:List Va},rnAs ids vs=some us→VRs K h G cs vs→VRs K h G1 cs us
 | cs,[],us,hp,hv=>by simp only [rnAs] at hp; cases hp; simpa only [VRs] using hv
 | cs,v::vs,us,hp,hv=>by
  simp only [rnAs] at hp
  split at hp
  ·rename_i u us' h1 h2
   cases hp
   simp only [VRs] at *
   obtain ⟨c,cs',e1,e2,e3⟩:=hv
   exact ⟨c,cs',e1,rnA_ok hG h1 e2,rnAs_ok hG h2 e3⟩
  ·cases hp
end
theorem rnO_ok (hG:∀ (j o:Nat),ids[j]?=some o→G1[j]?=G[o]?) {g:Gh} {x y:Ob} (hp:rnO ids x=some y) (hx:ObR K h G g x):ObR K h G1 g y:=by
 cases x with
 | cells T vs =>
  simp only [rnO] at hp
  split at hp
  ·rename_i us hu
   cases hp
   obtain ⟨b,cs,h1,h2,h3⟩:=hx
   exact ⟨b,cs,h1,h2,rnCs_ok hG hu h3⟩
  ·cases hp
 | it _ _ _=>simp [rnO] at hp
 | nst f T sz k p rows st =>
  simp only [rnO] at hp
  split at hp
  ·rename_i j hj
   cases hp
   obtain ⟨h0,h1,gp,vs,h2,h3⟩:=hx
   exact ⟨h0,h1,gp,vs,by rw [hG j p (rnI_some hj)]; exact h2,h3⟩
  ·cases hp
 | _=>simp only [rnO] at hp; cases hp; exact hx
theorem rnO_kept {x y:Ob} (hp:rnO ids x=some y):y.kept=x.kept:=by
 cases x with
 | cells T vs =>
  simp only [rnO] at hp
  split at hp
  ·cases hp; rfl
  ·cases hp
 | it _ _ _=>simp [rnO] at hp
 | nst f T sz k p rows st =>
  simp only [rnO] at hp
  split at hp
  ·cases hp; rfl
  ·cases hp
 | _=>simp only [rnO] at hp; cases hp; rfl
theorem bkO_ok (hG:∀ (j:Nat) (g:Gh),G1[j]?=some g→G[bkI ids base j]?=some g) {g:Gh} {x:Ob} (hx:ObR K h G1 g x):ObR K h G g (bkO ids base x):=by
 cases x with
 | cells T vs =>
  obtain ⟨b,cs,h1,h2,h3⟩:=hx
  exact ⟨b,cs,h1,h2,bkVs_ok hG h3⟩
 | it _ _ _=>trivial
 | nst f T sz k p rows st =>
  obtain ⟨h0,h1,gp,vs,h2,h3⟩:=hx
  exact ⟨h0,h1,gp,vs,hG p gp h2,h3⟩
 | _=>exact hx
end
theorem bkO_kept (ids:List Nat) (base:Nat) (x:Ob):(bkO ids base x).kept=x.kept:=by cases x <;> rfl
theorem bkOs_get (ids:List Nat) (base:Nat):∀ (X:List Ob) (j:Nat),(bkOs ids base X)[j]?=(X[j]?).map (bkO ids base)
 | [],j=>by simp [bkOs]
 | x::X,0=>by simp [bkOs]
 | x::X,j+1=>by simp only [bkOs,List.getElem?_cons_succ]; exact bkOs_get ids base X j
theorem bkOs_length (ids:List Nat) (base:Nat):∀ X:List Ob,(bkOs ids base X).length=X.length
 | []=>rfl
 | x::X=>by simp [bkOs,bkOs_length ids base X]
theorem subH_get {ids:List Nat} {H:List Ob}:∀ {is:List Nat} {X:List Ob},subH ids H is=some X→X.length=is.length∧∀ (j i:Nat),is[j]?=some i→∃ x,X[j]?=some x∧rnO ids (obAt H i)=some x
 | [],X,h=>by simp only [subH] at h; cases h; simp
 | i::is,X,h=>by
  simp only [subH] at h
  split at h
  ·rename_i x X' h1 h2
   cases h
   obtain ⟨h3,h4⟩:=subH_get h2
   refine ⟨by simp [h3],fun j k hj=>?_⟩
   cases j with
   | zero=>simp at hj; subst hj; exact ⟨x,rfl,h1⟩
   | succ j=>simpa using h4 j k (by simpa using hj)
  ·cases h
theorem obAt_eq:∀ {H:List Ob} {o:Nat} {x:Ob},H[o]?=some x→obAt H o=x
 | [],_,_,h=>by simp at h
 | y::H,0,x,h=>by simp at h; simp [obAt,h]
 | y::H,o+1,x,h=>by simp only [obAt]; exact obAt_eq (by simpa using h)
theorem kinds_at {X:List Ob} {o:Nat} {x:Ob} (h:X[o]?=some x) (hk:x.kept=true):kpf (kinds X) o=true:=by
 induction X generalizing o with
 | nil=>simp at h
 | cons y X ih =>
  cases o with
  | zero=>simp at h; subst h; simp [kinds,kpf,hk]
  | succ o=>simp only [kinds,kpf]; exact ih (by simpa using h)

section
variable {P:Program} {kl:List Bool} {n:Nat} {B:Bs} {K:Env→List Ob→Prop} {E:Env} {H:List Ob} {ops:Array Oper}

theorem callO_wp {o:Oper} {c:Call} {fop:Operand} {f:FuncId} {caps args:List Va} {X:List Ob} {Post:Va→List Ob→Prop} (ids:List Nat) (hs:Does P f args X Post) (e1:o.op=.call c) (e3:c.callee=.value fop) (hk:opOk true E fop∧allOk true E c.args.toList) (e4:opnd E fop=.fn f caps)
  (hp:rnAs ids (opnds E c.args.toList++caps)=some args) (hXs:subH ids H ids=some X) (hids:idsOk H.length ids=true) {a:Act} {w:World} {Q:Exit→Act→World→Prop} {K':Act→World→Prop} (hR:Rel (cx P kl n B) E H a w)
  (hK':∀ c' r X' w',Post r X'→r.ok→RelV (cx P kl n B) (pruneE (keepF ids H) E) (setL (pruneH (keepF ids H) H) ids (bkOs ids H.length X')) c' (bkV ids H.length r) a w'→K' (a.put o.dst c') w'):o.wp P a w K' Q:=by
 obtain ⟨Kk,G,hX,hS,hE,hdf,hn,hkp⟩:=hR
 have hvf:=opnd_ok hE rfl fop hk.1
 rw [e4] at hvf
 simp only [VR] at hvf
 obtain ⟨cs,hcs,hcv⟩:=hvf
 have hargs:=opnds_ok hE rfl c.args.toList hk.2
 obtain ⟨hnd,hlt⟩:=idsOk_spec hids
 obtain ⟨hXl,hXg⟩:=subH_get hXs
 -- the ghosts that are handed over
 have hGl:∀ i ∈ ids,i < G.length:=fun i hi=>by rw [hS.len]; exact hlt i hi
 obtain ⟨Gs,hGsl,hGs⟩:∃ Gs:List Gh,Gs.length=ids.length∧∀ (j i:Nat),ids[j]?=some i→Gs[j]?=G[i]?:=by
  refine ⟨ids.map fun i=>G.getD i ⟨none,undef,[]⟩,by simp,fun j i hj=>?_⟩
  have:=hGl i (List.mem_of_getElem? hj)
  simp [hj,List.getElem?_eq_getElem this]
 have inv:∀ {j:Nat} {g:Gh},Gs[j]?=some g→∃ i,ids[j]?=some i∧G[i]?=some g:=by
  intro j g hg
  have hj:=(List.getElem?_eq_some_iff.1 hg).1
  rw [hGsl] at hj
  exact ⟨ids[j],List.getElem?_eq_getElem hj,by rw [← hGs j _ (List.getElem?_eq_getElem hj)]; exact hg⟩
 have hSs:St Kk Gs X w:=by
  refine ⟨by rw [hGsl,hXl],hS.kb,fun j g b hg hb=>?_,fun j j' g g' b hg hg' hb hb'=>?_,fun j g x hg hx=>?_,hS.tb⟩
  ·obtain ⟨i,_,hi⟩:=inv hg
   exact hS.gbo i g b hi hb
  ·obtain ⟨i,hij,hi⟩:=inv hg
   obtain ⟨i',hij',hi'⟩:=inv hg'
   obtain rfl:=hS.ijo i i' g g' b hi hi' hb hb'
   exact (List.getElem?_inj (List.getElem?_eq_some_iff.1 hij).1 hnd).1 (hij.trans hij'.symm)
  ·obtain ⟨i,hij,hi⟩:=inv hg
   obtain ⟨x',hx',hrn⟩:=hXg j i hij
   rw [hx] at hx'; cases hx'
   have hil:=hlt i (List.mem_of_getElem? hij)
   have hoi:H[i]?=some (obAt H i) ∨ obAt H i=.gone:=by
    rcases Classical.em (obAt H i=.gone) with e | e
    ·exact .inr e
    ·exact .inl (obAt_some rfl e)
   rcases hoi with hoi | hoi
   ·exact rnO_ok (fun j o h=>hGs j o h) hrn (hS.ob i g _ hi hoi)
   ·rw [hoi] at hrn; simp only [rnO] at hrn; cases hrn; trivial
 have hall:=rnAs_ok (fun j o h=>hGs j o h) hp (hargs.append hcv)
 unfold Oper.wp
 rw [enter_run e1 e3 hcs hs.1]
 simp only [Oper.upon]
 refine (hs.2 Kk Gs w _ hSs hall).mono ?_
 rintro e w' ⟨c',r,X',K1,G1,rfl,hpost,hX1,hS1,hv,hkp1⟩
 have hGl1:ids.length≤G1.length:=by rw [← hGsl]; exact hX1.glen
 have hXl1:ids.length≤X'.length:=by rw [← hS1.len]; exact hGl1
 let G2:=setL G ids G1
 -- how the ghosts lie in the new list
 have g2new:∀ (j:Nat) (g:Gh),G1[j]?=some g→G2[bkI ids H.length j]?=some g:=by
  intro j g hg
  rcases Nat.lt_or_ge j ids.length with h | h
  ·rw [bkI_lt (List.getElem?_eq_getElem h)]
   show (setL G ids G1)[_]?=_
   rw [setL_hit hnd hGl hGl1 (List.getElem?_eq_getElem h)]
   exact hg
  ·rw [bkI_ge h,← hS.len]
   show (setL G ids G1)[_]?=_
   rw [setL_new h]
   exact hg
 have g2cases:∀ {o:Nat} {g:Gh},G2[o]?=some g→(∃ j:Nat,ids[j]?=some o∧G1[j]?=some g) ∨ (o ∉ ids∧o < G.length∧G[o]?=some g) ∨ (∃ j:Nat,ids.length≤j∧o=G.length+(j - ids.length)∧G1[j]?=some g):=fun h=>setL_cases hnd hGl hGl1 h
 have old:∀ {j:Nat} {g:Gh} {b:Nat},G1[j]?=some g→own g b→(∃ (i:Nat) (g0:Gh),i ∈ ids∧G[i]?=some g0∧own g0 b) ∨ w.heap.size≤b:=by
  intro j g b hg hb
  rcases hX1.gown j g b hg hb with ⟨j0,g0,h1,h2⟩ | h
  ·obtain ⟨i,hij,hi⟩:=inv h1
   exact .inl ⟨i,g0,List.mem_of_getElem? hij,hi,h2⟩
  ·exact .inr h
 have fr:∀ b,b < w.heap.size→(∀ (o:Nat) (g:Gh),o ∈ ids→G[o]?=some g→¬ own g b)→w'.heap[b]?=w.heap[b]?:=fun b hb hn=>hX1.frame b hb fun j g hg=>by
  obtain ⟨i,hij,hi⟩:=inv hg
  exact hn i g (List.mem_of_getElem? hij) hi
 have hMk:Mn Kk K1 w.heap w'.heap:=⟨hX1.k,fun b hb=>fr b (hS.kb b hb) fun o g _ hg e=>(hS.gbo o g b hg e).2 hb⟩
 have same:∀ {j i:Nat},ids[j]?=some i→(obAt H i).kept=true→G1[j]?=G[i]?:=by
  intro j i hj hkt
  obtain ⟨x,hx,hrn⟩:=hXg j i hj
  have hk:kpf (kinds X) j=true:=kinds_at hx (by rw [rnO_kept hrn]; exact hkt)
  have hjl:=(List.getElem?_eq_some_iff.1 hj).1
  have hgs:Gs[j]?=some Gs[j]:=List.getElem?_eq_getElem (by rw [hGsl]; exact hjl)
  rw [hX1.gsame j _ hk hgs,← hGs j i hj,hgs]
 have hMg:Mg (keepF ids H) G G2:=by
  intro o g ho hg
  have hol:=(List.getElem?_eq_some_iff.1 hg).1
  by_cases hin:o ∈ ids
  ·obtain ⟨j,hj⟩:=List.getElem?_of_mem hin
   show (setL G ids G1)[o]?=_
   rw [setL_hit hnd hGl hGl1 hj,same hj ?_]
   ·exact hg
   ·simpa [keepF,hin] using ho
  ·show (setL G ids G1)[o]?=_
   rw [setL_old hin hol]
   exact hg
 let H2:=setL (pruneH (keepF ids H) H) ids (bkOs ids H.length X')
 have hHl:∀ i ∈ ids,i < (pruneH (keepF ids H) H).length:=fun i hi=>by rw [pruneH_map,List.length_map]; exact hlt i hi
 have hS2:St K1 G2 H2 w':=by
  refine ⟨?_,hS1.kb,fun o g b hg hb=>?_,fun o o' g g' b hg hg' hb hb'=>?_,fun o g x hg hx=>?_,hS1.tb⟩
  ·show (setL G ids G1).length=(setL (pruneH (keepF ids H) H) ids (bkOs ids H.length X')).length
   rw [setL_length hGl1,setL_length (by rw [bkOs_length]; exact hXl1),pruneH_map,List.length_map,bkOs_length,hS.len,hS1.len]
  ·rcases g2cases hg with ⟨j,_,h⟩ | ⟨ho,hol,h⟩ | ⟨j,_,_,h⟩
   ·exact hS1.gbo j g b h hb
   ·have:=hS.gbo o g b h hb
    refine ⟨Nat.lt_of_lt_of_le this.1 hX1.size,fun hk=>?_⟩
    rcases hX1.knew b hk with h' | ⟨j0,g0,h1,h2⟩ | h'
    ·exact this.2 h'
    ·obtain ⟨i,hij,hi⟩:=inv h1
     exact ho (hS.ijo o i g g0 b h hi hb h2 ▸ List.mem_of_getElem? hij)
    ·omega
   ·exact hS1.gbo j g b h hb
  ·have sep:∀ {o:Nat} {g g':Gh} {b j:Nat},o ∉ ids→G[o]?=some g→own g b→G1[j]?=some g'→own g' b→False:=by
    intro o g g' b j ho h hb h' hb'
    have hbs:=(hS.gbo o g b h hb).1
    rcases old h' hb' with ⟨i,g0,hi,h0,hb0⟩ | h0
    ·exact ho (hS.ijo o i g g0 b h h0 hb hb0 ▸ hi)
    ·omega
   rcases g2cases hg with ⟨j,hj,h⟩ | ⟨ho,hol,h⟩ | ⟨j,hj,ho,h⟩ <;> rcases g2cases hg' with ⟨j',hj',h'⟩ | ⟨ho',hol',h'⟩ | ⟨j',hj',ho',h'⟩
   ·obtain rfl:=hS1.ijo j j' g g' b h h' hb hb'
    rw [hj] at hj'; cases hj'; rfl
   ·exact (sep ho' h' hb' h hb).elim
   ·obtain rfl:=hS1.ijo j j' g g' b h h' hb hb'
    have:=(List.getElem?_eq_some_iff.1 hj).1
    omega
   ·exact (sep ho h hb h' hb').elim
   ·exact hS.ijo o o' g g' b h h' hb hb'
   ·exact (sep ho h hb h' hb').elim
   ·obtain rfl:=hS1.ijo j j' g g' b h h' hb hb'
    have:=(List.getElem?_eq_some_iff.1 hj').1
    omega
   ·exact (sep ho' h' hb' h hb).elim
   ·obtain rfl:=hS1.ijo j j' g g' b h h' hb hb'
    omega
  ·have hcx:=setL_cases hnd hHl (by rw [bkOs_length]; exact hXl1) hx
   have hlenE:(pruneH (keepF ids H) H).length=G.length:=by rw [pruneH_map,List.length_map,hS.len]
   have new:∀ {j:Nat},G1[j]?=some g→(bkOs ids H.length X')[j]?=some x→ObR K1 w'.heap G2 g x:=by
    intro j h1 h2
    rw [bkOs_get] at h2
    cases hy:X'[j]? with
    | none=>rw [hy] at h2; cases h2
    | some y =>
     rw [hy] at h2
     simp at h2
     subst h2
     exact bkO_ok g2new (hS1.ob j g y h1 hy)
   rcases g2cases hg with ⟨j,hj,h⟩ | ⟨ho,hol,h⟩ | ⟨j,hj,ho,h⟩
   ·rcases hcx with ⟨j',hj',h'⟩ | ⟨ho',_,_⟩ | ⟨j',hj',ho',h'⟩
    ·have:=(List.getElem?_inj (List.getElem?_eq_some_iff.1 hj).1 hnd).1 (hj.trans hj'.symm)
     subst this
     exact new h h'
    ·exact absurd (List.mem_of_getElem? hj) ho'
    ·have:=hGl o (List.mem_of_getElem? hj)
     omega
   ·rcases hcx with ⟨j',hj',h'⟩ | ⟨ho',_,h'⟩ | ⟨j',hj',ho',h'⟩
    ·exact absurd (List.mem_of_getElem? hj') ho
    ·rw [pruneH_map,List.getElem?_map] at h'
     cases hy:H[o]? with
     | none=>rw [hy] at h'; cases h'
     | some y =>
      rw [hy] at h'
      simp at h'
      subst h'
      refine ObR.prune hMk hMg (fun b hb=>fr b (hS.gbo o g b h hb).1 fun i g' hi hg' e=>?_) (hS.ob o g y h hy)
      have:=hS.ijo o i g g' b h hg' hb e
      subst this
      exact ho hi
    ·omega
   ·rcases hcx with ⟨j',hj',h'⟩ | ⟨ho',hol',_⟩ | ⟨j',hj',ho',h'⟩
    ·have:=hlt o (List.mem_of_getElem? hj')
     rw [← hS.len] at this
     omega
    ·omega
    ·have:j=j':=by omega
     subst this
     exact new h h'
 have hX2:Ext (kpf kl) B.K0 B.G0 B.w0 K1 G2 w':=by
  refine hX.trans ⟨hX1.os,hX1.tape,hX1.output,hX1.size,hX1.k,fun b hb=>?_,?_,fun o g b hg hb=>?_,fun o g0 ho h0=>?_,fun b hb hn=>fr b hb fun o g _ hg=>hn o g hg⟩
  ·rcases hX1.knew b hb with h' | ⟨j0,g0,h1,h2⟩ | h'
   ·exact .inl h'
   ·obtain ⟨i,_,hi⟩:=inv h1
    exact .inr (.inl ⟨i,g0,hi,h2⟩)
   ·exact .inr (.inr h')
  ·show G.length≤(setL G ids G1).length
   rw [setL_length hGl1]; omega
  ·have up:∀ {j:Nat},G1[j]?=some g→(∃ (o0:Nat) (g0:Gh),G[o0]?=some g0∧own g0 b) ∨ w.heap.size≤b:=fun h=>(old h hb).imp (fun ⟨i,g0,_,h1,h2⟩=>⟨i,g0,h1,h2⟩) id
   rcases g2cases hg with ⟨j,_,h⟩ | ⟨_,_,h⟩ | ⟨j,_,_,h⟩
   ·exact up h
   ·exact .inl ⟨o,g,h,hb⟩
   ·exact up h
  ·refine hMg o g0 ?_ h0
   obtain ⟨x,hx,hkt⟩:=hkp o ho
   have:(obAt H o).kept=true:=by rw [obAt_eq hx]; exact hkt
   simp [keepF,this]
 have hRV:RelV (cx P kl n B) (pruneE (keepF ids H) E) H2 c' (bkV ids H.length r) a w':=by
  refine ⟨K1,G2,hX2,hS2,fun m=>by rw [get_pruneE]; exact VR.prune hMk hMg _ _ (hE m),hdf,hn,fun o ho=>?_,bkV_ok g2new hv⟩
  obtain ⟨x,hx,hkt⟩:=hkp o ho
  have hol:=(List.getElem?_eq_some_iff.1 hx).1
  by_cases hin:o ∈ ids
  ·obtain ⟨j,hj⟩:=List.getElem?_of_mem hin
   obtain ⟨y,hy,hrn⟩:=hXg j o hj
   have hk:kpf (kinds X) j=true:=kinds_at hy (by rw [rnO_kept hrn,obAt_eq hx]; exact hkt)
   obtain ⟨y',hy',hkt'⟩:=hkp1 j hk
   refine ⟨bkO ids H.length y',?_,by rw [bkO_kept]; exact hkt'⟩
   show (setL _ ids _)[o]?=_
   rw [setL_hit hnd hHl (by rw [bkOs_length]; exact hXl1) hj,bkOs_get,hy']
   rfl
  ·refine ⟨x.prune (keepF ids H),?_,Ob.prune_kept hkt⟩
   show (setL _ ids _)[o]?=_
   rw [setL_old hin (by rw [pruneH_map,List.length_map]; exact hol),pruneH_map,List.getElem?_map,hx]
   rfl
 exact hK' c' r X' w' hpost hv.ok hRV
theorem Rg.callO {o:Oper} {l:List Oper} {f:FuncId} {av args:List Va} {X:List Ob} {Post:Va→List Ob→Prop} (ids:List Nat) (hs:Does P f args X Post) (ha:Is (callArgs E o) (some (f,av))) (hp:Is (rnAs ids av) (some args)) (hXs:Is (subH ids H ids) (some X)) (hids:idsOk H.length ids=true) (hok:callOk n true E o)
  (cont:∀ r X',Post r X'→r.ok→RgEnd P kl n B ops K (run1 P kl n ops.toList l ⟨eput (pruneE (keepF ids H) E) o.dst (bkV ids H.length r),setL (pruneH (keepF ids H) H) ids (bkOs ids H.length X'),True⟩)):Rg P kl n B ops (o::l) E H K:=by
 obtain ⟨c,fop,caps,e1,e2,e3,e4,rfl⟩:=callArgs_spec ha
 obtain ⟨hd,hk⟩:=callOk_spec hok e1 e3
 intro hB a w Q hR hKK
 refine wpList_plain e2 fun K' hK'=>?_
 exact callO_wp ids hs e1 e3 hk e4 hp hXs hids hR fun c' r X' w' h1 h2 h3=>hK' _ _ (Rg.run (cont r X' h1 h2) hB _ _ _ (h3.put o.dst (dstOk_lt hd)) hKK)
end
end Go.Vc
/- What has grown is frozen: from here on it is pure data. -/
set_option linter.unusedSectionVars false
namespace Go.Vc
variable [Tabs]
mutual
def frz (o:Nat) (r:Nat × List (List Dt)):Va→Va
 | .buf i=>if i=o then .p (.l r.2) else .buf i
 | .el i s j a=>if i=o then .top else .el i s j a
 | .ptr i a=>if i=o then .top else .ptr i a
 | .cs i a=>if i=o then .top else .cs i a
 | .mp i=>if i=o then .top else .mp i
 | .np i=>if i=o then .top else .np i
 | .sd i=>if i=o then .top else .sd i
 | .vw i s j n=>if i=o then (if s=r.1 then .p (.l ((r.2.drop j).take n)) else .top) else .vw i s j n
 | .bufc i s=>if i=o then .top else .bufc i s
 | .nv i j=>if i=o then .top else .nv i j
 | .ne i s j l a=>if i=o then .top else .ne i s j l a
 | .fn f vs=>.fn f (frzs o r vs)
 | .agg vs=>.agg (frzs o r vs)
 | .tup vs=>.tup (frzs o r vs)
 | .cnd c v=>if v.all (· != o) then .cnd c v else .top
 | v=>v
def frzs (o:Nat) (r:Nat × List (List Dt)):List Va→List Va
 | []=>[]
 | v::vs=>frz o r v::frzs o r vs
end
def frzE (o:Nat) (r:Nat × List (List Dt)):Env→Env
 | []=>[]
 | (k,v)::E=>(k,frz o r v)::frzE o r E
def frzO (o:Nat) (r:Nat × List (List Dt)):Ob→Ob
 | .cells T vs=>.cells T (frzs o r vs)
 | .it i cl s=>if i=o then .gone else .it i cl s
 | .nst f T sz k p rows st=>if p=o then (bif f then .lost else .gone) else .nst f T sz k p rows st
 | x=>x
def frzH (o:Nat) (r:Nat × List (List Dt)):List Ob→List Ob
 | []=>[]
 | x::H=>frzO o r x::frzH o r H
theorem frzO_kept {o:Nat} {r:Nat × List (List Dt)} {x:Ob} (h:x.kept=true):(frzO o r x).kept=true:=by
 cases x <;> first | rfl | exact h | skip
 case it=>cases h
 case nst g T sz k p rows st =>
  simp only [frzO]
  split
  ·simp only [Ob.kept] at h; subst h; rfl
  ·exact h
theorem get_frzE (o:Nat) (r:Nat × List (List Dt)):∀ (E:Env) (m:Nat),eget (frzE o r E) m=frz o r (eget E m)
 | [],m=>by simp [frzE,eget,frz]
 | (k,v)::E,m=>by
  simp only [frzE,eget]
  split
  ·rfl
  ·exact get_frzE o r E m
theorem get_frzH (o:Nat) (r:Nat × List (List Dt)):∀ (H:List Ob) (m:Nat),(frzH o r H)[m]?=(H[m]?).map (frzO o r)
 | [],m=>by simp [frzH]
 | x::H,0=>by simp [frzH]
 | x::H,m+1=>by simp only [frzH,List.getElem?_cons_succ]; exact get_frzH o r H m
theorem frzH_length (o:Nat) (r:Nat × List (List Dt)):∀ H:List Ob,(frzH o r H).length=H.length
 | []=>rfl
 | x::H=>by simp [frzH,frzH_length o r H]
theorem DRss_drop {K:Nat→Prop} {h:Array Obj} {sz:Nat}:∀ {a:Nat} {xs:List Value} {rs:List (List Dt)},DRss K h sz xs rs→DRss K h sz (xs.drop (a * sz)) (rs.drop a)
 | 0,_,_,hd=>by simpa using hd
 | a+1,xs,[],hd=>by simp only [DRss] at hd; subst hd; simp [DRss]
 | a+1,xs,r::rs,hd=>by
  simp only [DRss] at hd
  obtain ⟨u,v,rfl,h1,h2,h3⟩:=hd
  have hl:=h2.length
  rw [List.drop_succ_cons,Nat.add_mul,Nat.one_mul,Nat.add_comm,← List.drop_drop,show sz=u.length by rw [hl,h1],List.drop_left]
  have:=DRss_drop (a:=a) h3
  rwa [show u.length=sz by rw [hl,h1]]
theorem DRss_take {K:Nat→Prop} {h:Array Obj} {sz:Nat}:∀ {n:Nat} {xs:List Value} {rs:List (List Dt)},DRss K h sz xs rs→DRss K h sz (xs.take ((rs.take n).length * sz)) (rs.take n)
 | 0,_,_,hd=>by simp [DRss]
 | n+1,xs,[],hd=>by simp [DRss]
 | n+1,xs,r::rs,hd=>by
  simp only [DRss] at hd
  obtain ⟨u,v,rfl,h1,h2,h3⟩:=hd
  have hl:=h2.length
  simp only [List.take_succ_cons,List.length_cons,DRss]
  refine ⟨u,v.take ((rs.take n).length * sz),?_,h1,h2,DRss_take h3⟩
  rw [Nat.add_mul,Nat.one_mul,Nat.add_comm,List.take_append,List.take_of_length_le (by omega)]
  congr 2
  omega
theorem vw_out {K:Nat→Prop} {h:Array Obj} {c:Value} {blk:Option Nat} {ad:Option Addr} {N cap sz a n:Nat} {r:List (List Dt)} (hd:DR K h (.slice ad N cap) (.l r)) (hz:∀ x ∈ r,x.length=sz) (hv:vwR c blk ad N cap sz a n):DR K h c (.l ((r.drop a).take n)):=by
 obtain ⟨hle,ad',cap',rfl,hcap,hcc,hpos⟩:=hv
 simp only [DR] at hd ⊢
 rcases hd with ⟨⟨_,h0⟩,rfl⟩ | ⟨b,off,cp,cs,T,fr,sz',vs,h1,h2,h3,h4,h5,h6,h7⟩
 ·cases h0
  obtain rfl:n=0:=by omega
  obtain rfl:a=0:=by omega
  obtain rfl:cap'=0:=by omega
  exact .inl ⟨⟨ad',rfl⟩,by simp⟩
 ·cases h1
  rcases Nat.eq_zero_or_pos cap' with rfl | hn
  ·obtain rfl:n=0:=by omega
   exact .inl ⟨⟨ad',rfl⟩,by simp⟩
  ·obtain ⟨b',_,hb,rfl⟩:=hpos hn
   have hbo:b=b'∧off=0:=by injection hb with hb; injection hb with e1 e2 _; exact ⟨e1,e2⟩
   obtain ⟨rfl,rfl⟩:=hbo
   have hsz:r=[] ∨ sz'=sz:=by
    cases r with
    | nil=>exact .inl rfl
    | cons x r =>
     simp only [DRss] at h7
     obtain ⟨_,_,_,h8,_⟩:=h7
     exact .inr (by rw [← h8]; exact hz x (by simp))
   rcases hsz with rfl | rfl
   ·obtain rfl:n=0:=by simp at hle; omega
    exact .inr ⟨b,a * sz,cap',cs,T,fr,sz',[],by simp,h2,h3,by simp,by simp,by simp,by simp [DRss]⟩
   have hlen:((r.drop a).take n).length=n:=by rw [List.length_take,List.length_drop]; omega
   refine .inr ⟨b,a * sz',cap',cs,T,fr,sz',(vs.drop (a * sz')).take (n * sz'),by rw [hlen],h2,h3,by omega,by omega,fun j v hj=>?_,?_⟩
   ·rw [List.getElem?_take] at hj
    split at hj
    ·rw [List.getElem?_drop] at hj
     have:=h6 _ _ hj
     rwa [Nat.zero_add] at this
    ·cases hj
   ·have:=DRss_take (n:=n) (DRss_drop (a:=a) h7)
    rwa [hlen] at this
section
variable {K K':Nat→Prop} {h:Array Obj} {G G':List Gh} {o:Nat} {r:Nat × List (List Dt)}
mutual
theorem frz_ok (hM:∀ b,K b→K' b) (hG:Mg (· != o) G G') (ho:∀ g,G[o]?=some g→DR K' h g.sv (.l r.2)) (hz:∀ x ∈ r.2,x.length=r.1):∀ {c:Value} {v:Va},VR K h G c v→VR K' h G' c (frz o r v)
 | c,.p x,hv=>VR.keep (f:=(· != o)) ⟨hM,fun _ _=>rfl⟩ hG c (.p x) rfl hv
 | c,.nils,hv=>VR.keep (f:=(· != o)) ⟨hM,fun _ _=>rfl⟩ hG c .nils rfl hv
 | c,.full rows,hv=>VR.keep (f:=(· != o)) ⟨hM,fun _ _=>rfl⟩ hG c (.full rows) rfl hv
 | c,.rp row,hv=>VR.keep (f:=(· != o)) ⟨hM,fun _ _=>rfl⟩ hG c (.rp row) rfl hv
 | c,.nil,hv=>VR.keep (f:=(· != o)) ⟨hM,fun _ _=>rfl⟩ hG c .nil rfl hv
 | c,.raw v,hv=>VR.keep (f:=(· != o)) ⟨hM,fun _ _=>rfl⟩ hG c (.raw v) rfl hv
 | c,.er v,hv=>VR.keep (f:=(· != o)) ⟨hM,fun _ _=>rfl⟩ hG c (.er v) rfl hv
 | c,.top,_=>by simp [frz,VR]
 | c,.buf i,hv=>by
  simp only [frz]
  split
  ·rename_i e
   subst e
   simp only [VR] at *
   obtain ⟨g,hg,rfl,_⟩:=hv
   exact ho g hg
  ·rename_i e
   exact VR.keep (f:=(· != o)) ⟨hM,fun _ _=>rfl⟩ hG c (.buf i) (by simpa [Va.all] using e) hv
 | c,.el i s j a,hv=>by
  simp only [frz]
  split
  ·simp [VR]
  ·rename_i e
   exact VR.keep (f:=(· != o)) ⟨hM,fun _ _=>rfl⟩ hG c (.el i s j a) (by simpa [Va.all] using e) hv
 | c,.ptr i a,hv=>by
  simp only [frz]
  split
  ·simp [VR]
  ·rename_i e
   exact VR.keep (f:=(· != o)) ⟨hM,fun _ _=>rfl⟩ hG c (.ptr i a) (by simpa [Va.all] using e) hv
 | c,.cs i a,hv=>by
  simp only [frz]
  split
  ·simp [VR]
  ·rename_i e
   exact VR.keep (f:=(· != o)) ⟨hM,fun _ _=>rfl⟩ hG c (.cs i a) (by simpa [Va.all] using e) hv
 | c,.mp i,hv=>by
  simp only [frz]
  split
  ·simp [VR]
  ·rename_i e
   exact VR.keep (f:=(· != o)) ⟨hM,fun _ _=>rfl⟩ hG c (.mp i) (by simpa [Va.all] using e) hv
 | c,.np i,hv=>by
  simp only [frz]
  split
  ·simp [VR]
  ·rename_i e
   exact VR.keep (f:=(· != o)) ⟨hM,fun _ _=>rfl⟩ hG c (.np i) (by simpa [Va.all] using e) hv
 | c,.sd i,hv=>by
  simp only [frz]
  split
  ·simp [VR]
  ·rename_i e
   exact VR.keep (f:=(· != o)) ⟨hM,fun _ _=>rfl⟩ hG c (.sd i) (by simpa [Va.all] using e) hv
 | c,.vw i s j n,hv=>by
  simp only [frz]
  split
  ·rename_i e
   subst e
   split
   ·rename_i e2
    subst e2
    simp only [VR] at hv ⊢
    obtain ⟨g,ad,N,cap,hg,hsv,hvw⟩:=hv
    exact vw_out (hsv ▸ ho g hg) hz hvw
   ·simp [VR]
  ·rename_i e
   exact VR.keep (f:=(· != o)) ⟨hM,fun _ _=>rfl⟩ hG c (.vw i s j n) (by simpa [Va.all] using e) hv
 | c,.bufc i s,hv=>by
  simp only [frz]
  split
  ·simp [VR]
  ·rename_i e
   exact VR.keep (f:=(· != o)) ⟨hM,fun _ _=>rfl⟩ hG c (.bufc i s) (by simpa [Va.all] using e) hv
 | c,.nv i s,hv=>by
  simp only [frz]
  split
  ·simp [VR]
  ·rename_i e
   exact VR.keep (f:=(· != o)) ⟨hM,fun _ _=>rfl⟩ hG c (.nv i s) (by simpa [Va.all] using e) hv
 | c,.ne i s j l a,hv=>by
  simp only [frz]
  split
  ·simp [VR]
  ·rename_i e
   exact VR.keep (f:=(· != o)) ⟨hM,fun _ _=>rfl⟩ hG c (.ne i s j l a) (by simpa [Va.all] using e) hv
 | c,.fn f vs,hv=>by simp only [frz,VR] at *; obtain ⟨cs,h1,h2⟩:=hv; exact ⟨cs,h1,frzs_ok hM hG ho hz h2⟩
 | c,.agg vs,hv=>by simp only [frz,VR] at *; obtain ⟨cs,h1,h2⟩:=hv; exact ⟨cs,h1,frzs_ok hM hG ho hz h2⟩
 | c,.tup vs,hv=>by simp only [frz,VR] at *; obtain ⟨cs,h1,h2⟩:=hv; exact ⟨cs,h1,frzs_ok hM hG ho hz h2⟩
 | c,.cnd b v,hv=>by
  simp only [frz]
  split
  ·rename_i e
   exact VR.keep (f:=(· != o)) ⟨hM,fun _ _=>rfl⟩ hG c (.cnd b v) (by simpa only [Va.all] using e) hv
  ·simp [VR]
theorem frzs_ok (hM:∀ b,K b→K' b) (hG:Mg (· != o) G G') (ho:∀ g,G[o]?=some g→DR K' h g.sv (.l r.2)) (hz:∀ x ∈ r.2,x.length=r.1):∀ {cs:List Value} {vs:List Va},VRs K h G cs vs→VRs K' h G' cs (frzs o r vs)
 | cs,[],hv=>by simpa only [frzs,VRs] using hv
 | cs,v::vs,hv=>by
  simp only [frzs,VRs] at *
  obtain ⟨c,cs',e1,e2,e3⟩:=hv
  exact ⟨c,cs',e1,frz_ok hM hG ho hz e2,frzs_ok hM hG ho hz e3⟩
end
end
section
variable {P:Program} {kl:List Bool} {n:Nat} {B:Bs} {Q:Qt} {E:Env} {H:List Ob}
theorem Wp.freeze {c:Code} (o:Nat) {T:TypeId} {sz:Nat} {rows:List (List Dt)} (ho:Is (obAt H o) (.buf T sz rows)) (hk:kl.length≤o) (hc:Wp P kl n B c Q (frzE o (sz,rows) E) ((frzH o (sz,rows) H).set o .gone)):Wp P kl n B c Q E H:=by
 intro hB a w hR
 obtain ⟨K,G,hX,hS,hE,hd,hn,hkp⟩:=hR
 have hoH:=obAt_some ho (by simp)
 obtain ⟨g,hg,_⟩:=hS.ghost hoH
 have hol:=(List.getElem?_eq_some_iff.1 hg).1
 let K':Nat→Prop:=fun b=>K b ∨ g.blk=some b
 let G':=G.set o ⟨none,g.sv,[]⟩
 have hM:∀ b,K b→K' b:=fun _ h=>.inl h
 have hMg:Mg (· != o) G G':=fun i g' hi hg'=>by
  show (G.set o _)[i]?=_
  rw [List.getElem?_set_ne (by simpa using Ne.symm (by simpa using hi))]; exact hg'
 have hdr:∀ g',G[o]?=some g'→DR K' w.heap g'.sv (.l rows):=fun g' hg'=>by
  rw [hg] at hg'; cases hg'
  exact buf_out hS hoH hg hM fun b hb=>.inr hb
 have hzz:∀ x ∈ (sz,rows).2,x.length=(sz,rows).1:=by
  obtain ⟨_,xs,hxs,_⟩:=hS.ob o g _ hg hoH
  exact DRss_len hxs
 have get':∀ {i:Nat} {g':Gh},G'[i]?=some g'→(i=o∧g'=⟨none,g.sv,[]⟩) ∨ (i ≠ o∧G[i]?=some g'):=by
  intro i g' hg'
  by_cases e:i=o
  ·subst e
   rw [show G'[i]?=some ⟨none,g.sv,[]⟩ from List.getElem?_set_self hol] at hg'
   cases hg'; exact .inl ⟨rfl,rfl⟩
  ·rw [show G'[i]?=G[i]? from List.getElem?_set_ne (Ne.symm e)] at hg'
   exact .inr ⟨e,hg'⟩
 have hG0:B.G0.length≤o:=by rw [hB]; exact hk
 refine hc hB a w ⟨K',G',{ hX with k:=fun b hb=>.inl (hX.k b hb),knew:=fun b hb=>?_,glen:=?_,gown:=fun i g' b hg' hb=>?_,gsame:=fun i g0 hi h0=>?_ },⟨?_,fun b hb=>?_,fun i g' b hg' hb=>?_,fun i j g' g'' b hg' hg'' hb hb'=>?_,fun i g' y hg' hy=>?_,hS.tb.mono ⟨fun _ h=>.inl h,fun _ _=>rfl⟩⟩,fun m=>?_,hd,hn,fun i hi=>?_⟩
 ·rcases hb with hb | hb
  ·exact hX.knew b hb
  ·exact .inr (hX.gown o g b hg (.inl hb))
 ·show B.G0.length≤(G.set o _).length
  rw [List.length_set]; exact hX.glen
 ·rcases get' hg' with ⟨_,rfl⟩ | ⟨_,h⟩
  ·exact (own_none hb).elim
  ·exact hX.gown i g' b h hb
 ·have h1:=hX.gsame i g0 hi h0
  have h2:i < kl.length:=kpf_lt hi
  show (G.set o _)[i]?=_
  rw [List.getElem?_set_ne (by omega)]; exact h1
 ·show (G.set o _).length=_
  rw [List.length_set,List.length_set,frzH_length,hS.len]
 ·rcases hb with hb | hb
  ·exact hS.kb b hb
  ·exact (hS.gb o g b hg hb).1
 ·rcases get' hg' with ⟨_,rfl⟩ | ⟨e,h⟩
  ·exact (own_none hb).elim
  ·refine ⟨(hS.gbo i g' b h hb).1,fun hk'=>?_⟩
   rcases hk' with hk' | hk'
   ·exact (hS.gbo i g' b h hb).2 hk'
   ·exact e (hS.ijo i o g' g b h hg hb (.inl hk'))
 ·rcases get' hg' with ⟨_,rfl⟩ | ⟨_,h⟩
  ·exact (own_none hb).elim
  ·rcases get' hg'' with ⟨_,rfl⟩ | ⟨_,h'⟩
   ·exact (own_none hb').elim
   ·exact hS.ijo i j g' g'' b h h' hb hb'
 ·rcases get' hg' with ⟨rfl,rfl⟩ | ⟨e,h⟩
  ·rw [List.getElem?_set_self (by rw [frzH_length,← hS.len]; exact hol)] at hy
   cases hy
   trivial
  ·rw [List.getElem?_set_ne (Ne.symm e),get_frzH] at hy
   cases hx:H[i]? with
   | none=>rw [hx] at hy; cases hy
   | some x =>
    rw [hx] at hy
    simp at hy
    subst hy
    have hob:=hS.ob i g' x h hx
    cases x with
    | cells T vs =>
     obtain ⟨b,cs,h1,h2,h3⟩:=hob
     exact ⟨b,cs,h1,h2,frzs_ok hM hMg hdr hzz h3⟩
    | buf T' sz' rows'=>exact ObR.keep ⟨hM,fun _ _=>rfl⟩ (Mg.refl (fun _=>true) G) (fun _ _=>rfl) rfl hob
    | fx T' sz' rows'=>exact ObR.keep ⟨hM,fun _ _=>rfl⟩ (Mg.refl (fun _=>true) G) (fun _ _=>rfl) rfl hob
    | sb T' bs=>exact ObR.keep ⟨hM,fun _ _=>rfl⟩ (Mg.refl (fun _=>true) G) (fun _ _=>rfl) rfl hob
    | mp ag es=>exact ObR.keep ⟨hM,fun _ _=>rfl⟩ (Mg.refl (fun _=>true) G) (fun _ _=>rfl) rfl hob
    | mpb ag es bs cl=>exact ObR.keep ⟨hM,fun _ _=>rfl⟩ (Mg.refl (fun _=>true) G) (fun _ _=>rfl) rfl hob
    | it q cl seen =>
     simp only [frzO]
     split
     ·trivial
     ·rename_i e; exact ObR.keep ⟨hM,fun _ _=>rfl⟩ hMg (fun _ _=>rfl) (by simpa [Ob.all] using e) hob
    | nst f T' sz' k p rows' st =>
     simp only [frzO]
     split
     ·cases f <;> trivial
     ·rename_i e; exact ObR.keep ⟨hM,fun _ _=>rfl⟩ hMg (fun _ _=>rfl) (by simpa [Ob.all] using e) hob
    | inn T' sz' ins=>exact ObR.keep ⟨hM,fun _ _=>rfl⟩ (Mg.refl (fun _=>true) G) (fun _ _=>rfl) rfl hob
    | gone=>trivial
    | lost=>trivial
 ·rw [get_frzE]
  exact frz_ok hM hMg hdr hzz (hE m)
 ·obtain ⟨x,hx,hkt⟩:=hkp i hi
  have h2:i < kl.length:=kpf_lt hi
  refine ⟨frzO o (sz,rows) x,?_,frzO_kept hkt⟩
  rw [List.getElem?_set_ne (by omega),get_frzH,hx]
  rfl
end
attribute [go_sem] rnI rnC rnCs rnA rnAs rnO subH bkI bkV bkVs bkO bkOs setL idsOk keepF frz frzs frzE frzO frzH
end Go.Vc
/- Calls that are handed objects,in any region: those that leave the objects as they are,under a guard or not; those that change them. -/
set_option linter.unusedSectionVars false
namespace Go.Vc
variable [Tabs]
mutual
theorem bk_rnC {ids:List Nat} {base:Nat}:∀ {v u:Va},rnC ids v=some u→bkV ids base u=v
 | .ptr o a,u,h=>by
  simp only [rnC] at h
  split at h
  ·rename_i j hj; cases h; simp only [bkV,bkI_lt (rnI_some hj)]
  ·cases h
 | .cs o a,u,h=>by
  simp only [rnC] at h
  split at h
  ·rename_i j hj; cases h; simp only [bkV,bkI_lt (rnI_some hj)]
  ·cases h
 | .el o s i a,u,h=>by
  simp only [rnC] at h
  split at h
  ·rename_i j hj; cases h; simp only [bkV,bkI_lt (rnI_some hj)]
  ·cases h
 | .buf o,u,h=>by
  simp only [rnC] at h
  split at h
  ·rename_i j hj; cases h; simp only [bkV,bkI_lt (rnI_some hj)]
  ·cases h
 | .mp o,u,h=>by
  simp only [rnC] at h
  split at h
  ·rename_i j hj; cases h; simp only [bkV,bkI_lt (rnI_some hj)]
  ·cases h
 | .np o,u,h=>by
  simp only [rnC] at h
  split at h
  ·rename_i j hj; cases h; simp only [bkV,bkI_lt (rnI_some hj)]
  ·cases h
 | .sd o,u,h=>by
  simp only [rnC] at h
  split at h
  ·rename_i j hj; cases h; simp only [bkV,bkI_lt (rnI_some hj)]
  ·cases h
 | .vw o _ _ _,u,h=>by
  simp only [rnC] at h
  split at h
  ·rename_i j hj; cases h; simp only [bkV,bkI_lt (rnI_some hj)]
  ·cases h
 | .bufc o _,u,h=>by
  simp only [rnC] at h
  split at h
  ·rename_i j hj; cases h; simp only [bkV,bkI_lt (rnI_some hj)]
  ·cases h
 | .nv o _,u,h=>by
  simp only [rnC] at h
  split at h
  ·rename_i j hj; cases h; simp only [bkV,bkI_lt (rnI_some hj)]
  ·cases h
 | .ne o _ _ _ _,u,h=>by
  simp only [rnC] at h
  split at h
  ·rename_i j hj; cases h; simp only [bkV,bkI_lt (rnI_some hj)]
  ·cases h
 | .fn f vs,u,h=>by
  simp only [rnC] at h
  split at h
  ·rename_i us hu; cases h; simp only [bkV,bk_rnCs hu]
  ·cases h
 | .agg vs,u,h=>by
  simp only [rnC] at h
  split at h
  ·rename_i us hu; cases h; simp only [bkV,bk_rnCs hu]
  ·cases h
 | .tup vs,u,h=>by
  simp only [rnC] at h
  split at h
  ·rename_i us hu; cases h; simp only [bkV,bk_rnCs hu]
  ·cases h
 | .cnd _ _,_,h=>by simp [rnC] at h
 | .p x,u,h | .nils,u,h | .full x,u,h | .rp x,u,h | .nil,u,h | .raw x,u,h | .er x,u,h | .top,u,h=>by simp only [rnC] at h; cases h; rfl
theorem bk_rnCs {ids:List Nat} {base:Nat}:∀ {vs us:List Va},rnCs ids vs=some us→bkVs ids base us=vs
 | [],us,h=>by simp only [rnCs] at h; cases h; rfl
 | v::vs,us,h=>by
  simp only [rnCs] at h
  split at h
  ·rename_i u us' h1 h2
   cases h
   simp only [bkVs,bk_rnC h1,bk_rnCs h2]
  ·cases h
end
theorem bk_rnO {ids:List Nat} {base:Nat} {x y:Ob} (h:rnO ids x=some y):bkO ids base y=x:=by
 cases x with
 | cells T vs =>
  simp only [rnO] at h
  split at h
  ·rename_i us hu; cases h; simp only [bkO,bk_rnCs hu]
  ·cases h
 | it _ _ _=>simp [rnO] at h
 | nst f T sz k p rows st =>
  simp only [rnO] at h
  split at h
  ·rename_i j hj; cases h; simp only [bkO,bkI_lt (rnI_some hj)]
  ·cases h
 | _=>simp only [rnO] at h; cases h; rfl
mutual
theorem prune_true:∀ v:Va,v.prune (fun _=>true)=v
 | .ptr _ _ | .cs _ _ | .el _ _ _ _ | .buf _ | .mp _ | .np _ | .sd _ | .vw _ _ _ _ | .bufc _ _ | .nv _ _ | .ne _ _ _ _ _=>by simp [Va.prune]
 | .fn f vs=>by simp only [Va.prune,prunes_true vs]
 | .agg vs=>by simp only [Va.prune,prunes_true vs]
 | .tup vs=>by simp only [Va.prune,prunes_true vs]
 | .cnd c v=>by simp only [Va.prune,Va.all_true,if_true]
 | .p _ | .nils | .full _ | .rp _ | .nil | .raw _ | .er _ | .top=>rfl
theorem prunes_true:∀ vs:List Va,Va.prunes (fun _=>true) vs=vs
 | []=>rfl
 | v::vs=>by simp only [Va.prunes,prune_true v,prunes_true vs]
end
theorem pruneE_true:∀ E:Env,pruneE (fun _=>true) E=E
 | []=>rfl
 | (k,v)::E=>by simp only [pruneE,prune_true,pruneE_true E]
theorem pruneH_true:∀ H:List Ob,pruneH (fun _=>true) H=H
 | []=>rfl
 | x::H=>by simp only [pruneH,pruneH_true H]; cases x <;> simp only [Ob.prune,prunes_true,if_true]
def allKept (H:List Ob):List Nat→Bool
 | []=>true
 | i::ids=>(obAt H i).kept && allKept H ids
theorem keepF_true {H:List Ob} {ids:List Nat} (h:allKept H ids=true):keepF ids H=fun _=>true:=by
 funext o
 simp only [keepF]
 by_cases ho:o ∈ ids
 ·have:(obAt H o).kept=true:=by
   induction ids with
   | nil=>cases ho
   | cons i ids ih =>
    simp only [allKept,Bool.and_eq_true] at h
    rcases List.mem_cons.1 ho with rfl | ho
    ·exact h.1
    ·exact ih h.2 ho
  simp [this]
 ·simp [ho]
theorem sub_same {H X:List Ob} {ids:List Nat} {base:Nat} (hX:subH ids H ids=some X) (hids:idsOk H.length ids=true):setL H ids (bkOs ids base X)=H:=by
 obtain ⟨hnd,hlt⟩:=idsOk_spec hids
 obtain ⟨hl,hg⟩:=subH_get hX
 apply List.ext_getElem?
 intro o
 by_cases ho:o ∈ ids
 ·obtain ⟨j,hj⟩:=List.getElem?_of_mem ho
  rw [setL_hit hnd hlt (by rw [bkOs_length]; omega) hj,bkOs_get]
  obtain ⟨x,hx,hr⟩:=hg j o hj
  rw [hx]
  simp only [Option.map_some,bk_rnO hr]
  have hol:=hlt o ho
  rw [List.getElem?_eq_getElem hol,obAt_eq (List.getElem?_eq_getElem hol)]
 ·rcases Nat.lt_or_ge o H.length with h | h
  ·exact setL_old ho h
  ·rw [List.getElem?_eq_none h,List.getElem?_eq_none]
   rw [setL_length (by rw [bkOs_length]; omega),bkOs_length]
   omega

section
variable {P:Program} {kl:List Bool} {n:Nat} {B:Bs} {K:Env→List Ob→Prop} {E:Env} {H:List Ob}

theorem callRO_wp {o:Oper} {c:Call} {fop:Operand} {f:FuncId} {caps args:List Va} {X:List Ob} {v:Va} (ids:List Nat) (hs:Does P f args X fun r X'=>r=v∧X'=X) (ho:o.op=.call c) (hc:c.callee=.value fop) (hok:opOk true E fop∧allOk true E c.args.toList) (hf:opnd E fop=.fn f caps)
  (hp:rnAs ids (opnds E c.args.toList++caps)=some args) (hXs:subH ids H ids=some X) (hids:idsOk H.length ids=true) (hkp:allKept H ids=true) {a:Act} {w:World} {Q:Exit→Act→World→Prop} {K':Act→World→Prop} (hR:Rel (cx P kl n B) E H a w)
  (hK':∀ c' w',v.ok→RelV (cx P kl n B) E H c' (bkV ids H.length v) a w'→K' (a.put o.dst c') w'):o.wp P a w K' Q:=by
 refine callO_wp ids hs ho hc hok hf hp hXs hids hR fun c' r X' w' ⟨hr,hX⟩ hv hRV=>?_
 subst hr; subst hX
 rw [keepF_true hkp,pruneE_true,pruneH_true,sub_same hXs hids] at hRV
 exact hK' c' w' hv hRV

theorem Rg.callR {ops:Array Oper} {o:Oper} {l:List Oper} {f:FuncId} {av args:List Va} {X:List Ob} {g:Bool} {v:Va} (ids:List Nat) (hs:g=true→Does P f args X fun r X'=>r=v∧X'=X) (ha:Is (callArgsX E o) (some (f,av))) (hb:Is (guardX ops.toList E o) (some g)) (hp:Is (rnAs ids av) (some args)) (hXs:Is (subH ids H ids) (some X)) (hids:idsOk H.length ids=true) (hkp:allKept H ids=true) (hok:callOk n g E o)
  (cont:RgEnd P kl n B ops K (run1 P kl n ops.toList l ⟨eput E o.dst (wrapG o.guard g (bkV ids H.length v)),H,True⟩)):Rg P kl n B ops (o::l) E H K:=by
 unfold Is callArgsX at ha
 unfold Is guardX at hb
 split at ha
 rotate_left
 ·cases ha
 rename_i c h1
 split at ha
 rotate_left
 ·cases ha
 rename_i fop h3
 split at ha
 rotate_left
 ·cases ha
 rename_i f' caps h4
 cases ha
 obtain ⟨hd,hk⟩:=callOk_spec hok h1 h3
 have hrun:=Rg.run cont
 intro hB a w Q hR hKK
 cases hg:o.guard with
 | none =>
  rw [hg] at hb
  obtain rfl:true=g:=Option.some.inj hb
  refine wpList_plain hg fun K' hK'=>?_
  rw [wrapG_none hg] at hrun
  exact callRO_wp ids (hs rfl) h1 h3 hk h4 hp hXs hids hkp hR fun c' w' _ hRV=>hK' _ _ (hrun hB _ _ _ (hRV.put o.dst (dstOk_lt hd)) hKK)
 | some gw =>
  obtain ⟨j,want⟩:=gw
  rw [hg] at hb
  have hw:=guardB_ok hR hg hb
  rw [wrapG_some hg] at hrun
  refine wpList_step fun K' hK'=>?_
  cases g with
  | true =>
   rw [if_pos hw]
   exact callRO_wp ids (hs rfl) h1 h3 hk h4 hp hXs hids hkp hR fun c' w' _ hRV=>hK' _ _ (hrun hB _ _ _ (RelV.put (v:=.cnd true _) (by
    obtain ⟨Kk,G,q1,q2,q3,q4,q5,q6,q7⟩:=hRV
    exact ⟨Kk,G,q1,q2,q3,q4,q5,q6,by simp only [VR]; exact ⟨fun _=>q7,fun e=>Bool.noConfusion e⟩⟩) o.dst (dstOk_lt hd)) hKK)
  | false =>
   rw [if_neg (by rw [hw]; simp)]
   obtain ⟨Kk,G,hX,hS,hE,hdf,hn,hkp'⟩:=hR
   exact hK' _ _ (hrun hB _ _ _ (RelV.put (C:=cx P kl n B) (v:=.cnd false _) ⟨Kk,G,hX,hS,hE,hdf,hn,hkp',by simp [VR]⟩ o.dst (dstOk_lt hd)) hKK)
end

section
variable {P:Program} {kl:List Bool} {n:Nat} {B:Bs} {ops:List Oper} {K:Env→List Ob→Prop} {l:Plan} {obs:List En} {E:Env} {H:List Ob}
theorem Br.callE {k:Nat} {L:List Nat} {f:FuncId} {av args:List Va} {X Y:List Ob} {o:Oper} {v:Va} (ids:List Nat) (hs:Does P f args X fun r X'=>r=v∧X'=Y) (hk:Is ops[k]? (some o)) (hg:Is o.guard none) (ha:Is (callArgsX E o) (some (f,av))) (hp:Is (rnAs ids av) (some args)) (hXs:Is (subH ids H ids) (some X)) (hids:idsOk H.length ids=true) (hkp:allKept H ids=true) (hok:callOk n true E o)
  (hag:againAll L none (setL H ids (bkOs ids H.length Y)) obs)
  (cont:RdEnd P kl n B ops.toArray K (runD P kl n ops l ⟨obs,eput E o.dst (bkV ids H.length v),setL H ids (bkOs ids H.length Y),True⟩)):Br P kl n B ops.toArray k L l obs E H K:=by
 unfold Is at *
 unfold callArgsX at ha
 split at ha
 rotate_left
 ·cases ha
 rename_i c h1
 split at ha
 rotate_left
 ·cases ha
 rename_i fop h3
 split at ha
 rotate_left
 ·cases ha
 rename_i f' caps h4
 cases ha
 obtain ⟨hd,hk1,hk2⟩:=callOk_spec hok h1 h3
 have h':=Dr.run cont
 simp only at h'
 rw [← dst_eq hk] at h'
 refine Br.eff (po:=none) (fun _=>?_) hag h'
 intro E' hE' a w Q K' hR hK
 have hop:=looks_op (getA hk) hE'
 rw [h1] at hop
 have hfo:rnd E fop=rnd E' fop:=hop fop (by simp [Op.operands,Call.operands,h3])
 have hag':Agree c.args.toList E E':=fun x hx=>hop x (by simp only [Op.operands,Call.operands,Array.toList_append,List.mem_append]; exact .inr hx)
 rw [Agree.opOk hfo] at hk1
 rw [Agree.allOk hag'] at hk2
 rw [Agree.opnd hfo] at h4
 rw [Agree.opnds hag'] at hp
 rw [dst_eq hk] at hK
 unfold wpOp
 simp only [getA hk]
 rw [if_pos (by simp [Region.wanted,hg])]
 refine .inl (callO_wp ids hs h1 h3 ⟨hk1,hk2⟩ h4 hp hXs hids hR fun c' r X' w' ⟨hr,hX⟩ _ hRV=>?_)
 subst hr; subst hX
 rw [keepF_true hkp,pruneE_true,pruneH_true] at hRV
 exact hK _ _ (hRV.put o.dst (dstOk_lt hd))
theorem Br.callR {k:Nat} {L:List Nat} {f:FuncId} {av args:List Va} {X:List Ob} {g:Bool} {o:Oper} {v:Va} (ids:List Nat) (hs:g=true→Does P f args X fun r X'=>r=v∧X'=X) (hk:Is ops[k]? (some o)) (ha:Is (callArgsX E o) (some (f,av))) (hb:Is (guardX ops E o) (some g)) (hp:Is (rnAs ids av) (some args)) (hXs:Is (subH ids H ids) (some X)) (hids:idsOk H.length ids=true) (hkp:allKept H ids=true) (hok:callOk n g E o)
  (hag:againAll L none H obs)
  (cont:RdEnd P kl n B ops.toArray K (runD P kl n ops l ⟨obs,eput E o.dst (wrapG o.guard g (bkV ids H.length v)),H,True⟩)):Br P kl n B ops.toArray k L l obs E H K:=by
 unfold Is at *
 unfold callArgsX at ha
 split at ha
 rotate_left
 ·cases ha
 rename_i c h1
 split at ha
 rotate_left
 ·cases ha
 rename_i fop h3
 split at ha
 rotate_left
 ·cases ha
 rename_i f' caps h4
 cases ha
 obtain ⟨hd,hk1,hk2⟩:=callOk_spec hok h1 h3
 have h':=Dr.run cont
 simp only at h'
 rw [← dst_eq hk] at h'
 refine Br.eff (po:=none) (fun _=>?_) hag h'
 intro E' hE' a w Q K' hR hK
 have hop:=looks_op (getA hk) hE'
 rw [h1] at hop
 have hfo:rnd E fop=rnd E' fop:=hop fop (by simp [Op.operands,Call.operands,h3])
 have hag':Agree c.args.toList E E':=fun x hx=>hop x (by simp only [Op.operands,Call.operands,Array.toList_append,List.mem_append]; exact .inr hx)
 rw [Agree.opOk hfo] at hk1
 rw [Agree.allOk hag'] at hk2
 rw [Agree.opnd hfo] at h4
 rw [Agree.opnds hag'] at hp
 rw [dst_eq hk] at hK
 unfold wpOp
 simp only [getA hk]
 unfold guardX at hb
 cases hgd:o.guard with
 | none =>
  rw [hgd] at hb hK
  obtain rfl:true=g:=Option.some.inj hb
  rw [if_pos (by simp [Region.wanted,hgd])]
  exact .inl (callRO_wp ids (hs rfl) h1 h3 ⟨hk1,hk2⟩ h4 hp hXs hids hkp hR fun c' w' _ hRV=>hK _ _ (hRV.put o.dst (dstOk_lt hd)))
 | some gw =>
  obtain ⟨j,want⟩:=gw
  rw [hgd] at hb hK
  have hb':guardB ops.toArray.toList E j want=some g:=by simpa using hb
  rw [← guardB_congr (getA hk) hgd hE'] at hb'
  have hw:=guardB_ok hR hgd hb'
  cases g with
  | true =>
   rw [if_pos hw]
   exact .inl (callRO_wp ids (hs rfl) h1 h3 ⟨hk1,hk2⟩ h4 hp hXs hids hkp hR fun c' w' _ hRV=>hK _ _ (RelV.put (v:=.cnd true _) (by
    obtain ⟨Kk,G,q1,q2,q3,q4,q5,q6,q7⟩:=hRV
    exact ⟨Kk,G,q1,q2,q3,q4,q5,q6,by simp only [VR]; exact ⟨fun _=>q7,fun e=>Bool.noConfusion e⟩⟩) o.dst (dstOk_lt hd)))
  | false =>
   rw [if_neg (by rw [hw]; simp)]
   obtain ⟨Kk,G,hX,hS,hE,hdf,hn,hkp'⟩:=hR
   exact hK _ _ (RelV.put (C:=cx P kl n B) (v:=.cnd false _) ⟨Kk,G,hX,hS,hE,hdf,hn,hkp',by simp [VR]⟩ o.dst (dstOk_lt hd))
end
attribute [go_sem] allKept
end Go.Vc
/- Maps as lists of pairs. -/
set_option linter.unusedSectionVars false
namespace Go.Vc
variable [Tabs]
section
variable {K V Z:Type} [DecidableEq K]
def alook:List (K × V)→K→Option V
 | [],_=>none
 | p::l,k=>bif decide (p.1=k) then some p.2 else alook l k
def aset:List (K × V)→K→V→List (K × V)
 | [],k,v=>[(k,v)]
 | p::l,k,v=>bif decide (p.1=k) then (k,v)::l else p::aset l k v
def adel:List (K × V)→K→List (K × V)
 | [],_=>[]
 | p::l,k=>bif decide (p.1=k) then l else p::adel l k
omit [DecidableEq K] in
def encM (kd:K→Dt) (e:V→List Dt) (l:List (K × V)):List (Dt × List Dt):=l.map fun p=>(kd p.1,e p.2)
def letv {A:Type} (a:A) (k:A→Option Z):Option Z:=k a
theorem letv_elim {A:Type} {a:A} {k:A→Option Z} {z:Z} (h:letv a k=some z):∃ x,a=x∧k x=some z:=⟨a,rfl,h⟩
variable {kd:K→Dt} {e:V→List Dt}
theorem mlook_enc (hk:∀ a b,keq (kd a) (kd b)=decide (a=b)):∀ (l:List (K × V)) (k:K),mlook (encM kd e l) (kd k)=(alook l k).map e
 | [],_=>rfl
 | p::l,k=>by
  have ih:=mlook_enc hk l k
  simp only [encM] at ih
  simp only [encM,List.map_cons,mlook,alook,hk,ih]
  cases decide (p.1=k) <;> rfl
theorem mset_enc (hk:∀ a b,keq (kd a) (kd b)=decide (a=b)):∀ (l:List (K × V)) (k:K) (v:V),mset (encM kd e l) (kd k) (e v)=encM kd e (aset l k v)
 | [],_,_=>rfl
 | p::l,k,v=>by
  have ih:=mset_enc hk l k v
  simp only [encM] at ih
  simp only [encM,List.map_cons,mset,aset,hk,ih]
  cases decide (p.1=k) <;> rfl
theorem mdel_enc (hk:∀ a b,keq (kd a) (kd b)=decide (a=b)):∀ (l:List (K × V)) (k:K),mdel (encM kd e l) (kd k)=encM kd e (adel l k)
 | [],_=>rfl
 | p::l,k=>by
  have ih:=mdel_enc hk l k
  simp only [encM] at ih
  simp only [encM,List.map_cons,mdel,adel,hk,ih]
  cases decide (p.1=k) <;> rfl
theorem mlookD_enc (hk:∀ a b,keq (kd a) (kd b)=decide (a=b)) (l:List (K × V)) (k:K) (d:V):mlookD (encM kd e l) (kd k) (e d)=e ((alook l k).getD d):=by
 simp only [mlookD,mlook_enc hk]
 cases alook l k <;> rfl
theorem mlook_some (hk:∀ a b,keq (kd a) (kd b)=decide (a=b)) (l:List (K × V)) (k:K):(mlook (encM kd e l) (kd k)).isSome=(alook l k).isSome:=by
 rw [mlook_enc hk]
 cases alook l k <;> rfl
omit [DecidableEq K] in
theorem encM_length (l:List (K × V)):(encM kd e l).length=l.length:=by simp [encM]
end
theorem encM_nil {K V:Type} (kd:K→Dt) (e:V→List Dt):encM kd e []=[]:=rfl
theorem keq_s (a b:Str):keq (Dt.s a) (Dt.s b)=decide (a=b):=rfl
theorem keq_i (k:IntKind) (a b:Int):keq (Dt.i k a) (Dt.i k b)=decide (a=b):=rfl
theorem mkeys_s {V:Type} (e:V→List Dt):∀ l:List (Str × V),mkeys (.tk .str) (encM Dt.s e l)=True
 | []=>by simp only [encM,List.map_nil,mkeys]
 | p::l=>by
  have ih:=mkeys_s e l
  simp only [encM] at ih
  simp only [encM,List.map_cons,mkeys,keyOk,ih,and_self]
theorem mkeys_i {V:Type} (k:IntKind) (e:V→List Dt):∀ l:List (Int × V),mkeys (.tk (.int k)) (encM (Dt.i k) e l)=True
 | []=>by simp only [encM,List.map_nil,mkeys]
 | p::l=>by
  have ih:=mkeys_i k e l
  simp only [encM] at ih
  simp only [encM,List.map_cons,mkeys,keyOk,ih,and_self]
theorem mkeys_a {K V:Type} {kd:K→List Dt} {ks:List Kd} (h:∀ x,hasKs ks (kd x)) (e:V→List Dt):∀ l:List (K × V),mkeys (.ks ks) (encM (fun x=>Dt.a (kd x)) e l)=True
 | []=>by simp only [encM,List.map_nil,mkeys]
 | p::l=>by
  have ih:=mkeys_a h e l
  simp only [encM] at ih
  simp only [encM,List.map_cons,mkeys,keyOk,ih,and_true,eq_true (h p.1)]
attribute [go_sem] encM_nil mkeys_s mkeys_i encM_length
end Go.Vc
/- Calls of natives: functions of the library without a body,which the model runs by itself. -/
set_option linter.unusedSectionVars false
namespace Go.Vc
variable [Tabs]

def Nv (P:Program) (f:FuncId) (args:List Va) (v:Va):Prop :=
 ∀ K (w:World) vals,VRs K w.heap [] vals args→∃ c,(callFunc f vals.toArray).run P w=.ok (.value c) w∧VR K w.heap [] c v

theorem native_run {P:Program} {o:Oper} {c:Call} {fop:Operand} {f:FuncId} {cs:List Value} {a:Act} {w:World} (ho:o.op=.call c) (hc:c.callee=.value fop) (hf:a.eval fop=.func (.func f) #[] cs.toArray) :
  (execOp a.eval o).run P w=(callFunc f ((c.args.toList.map a.eval)++cs).toArray).run P w:=by
 obtain ⟨callee,args,argTypes⟩:=c
 obtain ⟨dst,op,ty,pos,af,gd⟩:=o
 cases ho
 simp only at hc
 subst hc
 have e:args.map a.eval=(args.toList.map a.eval).toArray:=by cases args; simp
 simp only [execOp,resolve,hf,Deferred.ofValue,Sem.run_bind,Sem.run_pure,Result.andThen_ok,invoke]
 congr 2
 simp

section
variable {P:Program} {kl:List Bool} {n:Nat} {B:Bs} {ops:Array Oper} {K:Env→List Ob→Prop} {E:Env} {H:List Ob}
theorem native_wp {o:Oper} {c:Call} {fop:Operand} {f:FuncId} {caps args:List Va} {v:Va} (hs:Nv P f args v) (ho:o.op=.call c) (hc:c.callee=.value fop)
  (hok:opOk true E fop∧allOk true E c.args.toList) (hf:opnd E fop=.fn f caps) (hp:lendVs H (opnds E c.args.toList++caps)=some args) (hflat:v.flat=true) {a:Act} {w:World} {Q:Exit→Act→World→Prop} {K':Act→World→Prop}
  (hR:Rel (cx P kl n B) E H a w) (hK:v.ok→∀ c' w',RelV (cx P kl n B) E H c' v a w'→K' (a.put o.dst c') w'):o.wp P a w K' Q:=by
 obtain ⟨Kk,G,hX,hS,hE,hdf,hn,hkp⟩:=hR
 have hvf:=opnd_ok hE rfl fop hok.1
 rw [hf] at hvf
 simp only [VR] at hvf
 obtain ⟨cs,hcs,hcv⟩:=hvf
 have hargs:=opnds_ok hE rfl c.args.toList hok.2
 have hall:=lendVs_ok hS hp (hargs.append hcv)
 obtain ⟨c',hrun,hv⟩:=hs _ w _ hall
 unfold Oper.wp
 rw [native_run ho hc hcs,hrun]
 simp only [Oper.upon]
 exact hK hv.ok c' w ⟨Kk,G,hX,hS,hE,hdf,hn,hkp,flat_ok hflat hv⟩
theorem Rg.callN {o:Oper} {l:List Oper} {f:FuncId} {av args:List Va} {g:Bool} {v:Va} (hs:g=true→Nv P f args v) (ha:Is (callArgsX E o) (some (f,av))) (hb:Is (guardX ops.toList E o) (some g)) (hp:Is (lendVs H av) (some args)) (hok:callOk n g E o) (hf:Is v.flat true)
  (cont:(g=true→v.ok)→RgEnd P kl n B ops K (run1 P kl n ops.toList l ⟨eput E o.dst (wrapG o.guard g v),H,True⟩)):Rg P kl n B ops (o::l) E H K:=by
 unfold Is callArgsX at ha
 unfold Is guardX at hb
 split at ha
 rotate_left
 ·cases ha
 rename_i c h1
 split at ha
 rotate_left
 ·cases ha
 rename_i fop h3
 split at ha
 rotate_left
 ·cases ha
 rename_i f' caps h4
 cases ha
 obtain ⟨hd,hk⟩:=callOk_spec hok h1 h3
 cases hg:o.guard with
 | none =>
  rw [hg] at hb
  obtain rfl:true=g:=Option.some.inj hb
  intro hB a w Q hR hK
  refine wpList_plain hg fun K' hK'=>?_
  refine native_wp (hs rfl) h1 h3 hk h4 hp hf hR fun hvo c' w' hRV=>?_
  have c1:=cont fun _=>hvo
  rw [wrapG_none hg] at c1
  exact hK' _ _ (Rg.run c1 hB _ _ _ (hRV.put o.dst (dstOk_lt hd)) hK)
 | some gw =>
  obtain ⟨j,want⟩:=gw
  rw [hg] at hb
  intro hB a w Q hR hK
  have hw:=guardB_ok hR hg hb
  refine wpList_step fun K' hK'=>?_
  cases g with
  | true =>
   rw [if_pos hw]
   refine native_wp (hs rfl) h1 h3 hk h4 hp hf hR fun hvo c' w' hRV=>?_
   have c1:=cont fun _=>hvo
   rw [wrapG_some hg] at c1
   have hRV:RelV (cx P kl n B) E H c' (.cnd true v) a w':=by
    obtain ⟨Kk,G,hX,hS,hE,hdf,hn,hkp,hv⟩:=hRV
    exact ⟨Kk,G,hX,hS,hE,hdf,hn,hkp,by simp only [VR]; exact ⟨fun _=>hv,fun e=>Bool.noConfusion e⟩⟩
   exact hK' _ _ (Rg.run c1 hB _ _ _ (hRV.put o.dst (dstOk_lt hd)) hK)
  | false =>
   rw [if_neg (by rw [hw]; simp)]
   obtain ⟨Kk,G,hX,hS,hE,hdf,hn,hkp⟩:=hR
   have hRV:RelV (cx P kl n B) E H undef (.cnd false v) a w:=⟨Kk,G,hX,hS,hE,hdf,hn,hkp,by simp [VR]⟩
   have c1:=cont fun e=>Bool.noConfusion e
   rw [wrapG_some hg] at c1
   exact hK' _ _ (Rg.run c1 hB _ _ _ (hRV.put o.dst (dstOk_lt hd)) hK)
end

def retE (m:Nat) (kl:List Bool) (v:Va) (Y H:List Ob) (pv:Pv):Prop :=
 pv.ok∧kl.length≤m∧m≤H.length∧(outV m H pv.v).all (fun o=>decide (o < m))=true∧allH (fun o=>decide (o < m)) (outH m H (H.take m))=true ∧
  leV (outV m H pv.v) v∧leH (outH m H (H.take m)) Y∧Y.length=m∧v.all (fun o=>decide (o < m))=true∧allH (fun o=>decide (o < m)) Y=true
section
variable {P:Program} {kl:List Bool} {rs:List ResultVar} {m:Nat} {E:Env} {H Y:List Ob} {v:Va}
theorem retE_ok (h:retE m kl v Y H (resV P E H rs)):RetOk P rs m kl (fun r X=>r=v∧X=Y) E H:=by
 obtain ⟨h1,h2,h3,h4,h5,h6,h7,h8,h9,h10⟩:=h
 exact ⟨h1,h2,h3,h4,h5,_,_,h6,h7,h8,h9,h10,rfl,rfl⟩
theorem retQ_retE (h:retE m kl v Y H (resV P E H rs)):retQ P rs m kl (fun r X=>r=v∧X=Y) .ret E H:=retE_ok h
theorem retQ_normalE (h:retE m kl v Y H (resV P E H rs)):retQ P rs m kl (fun r X=>r=v∧X=Y) .normal E H:=retE_ok h
end
theorem szOk_set {n:Nat} {rows:List (List Dt)} {i:Nat} {r:List Dt} (h:szOk n rows) (hr:r.length=n):szOk n (rows.set i r)=True :=
 eq_true fun x hx=>by
  rcases List.mem_or_eq_of_mem_set hx with hx | rfl
  ·exact h x hx
  ·exact hr
theorem szOk_append (n:Nat) (a b:List (List Dt)):szOk n (a++b)=(szOk n a∧szOk n b):=by
 unfold szOk
 simp only [List.mem_append,eq_iff_iff]
 exact ⟨fun h=>⟨fun r hr=>h r (.inl hr),fun r hr=>h r (.inr hr)⟩,fun h r hr=>hr.elim (h.1 r) (h.2 r)⟩
theorem szOk_take {n k:Nat} {rows:List (List Dt)} (h:szOk n rows):szOk n (rows.take k)=True:=eq_true fun x hx=>h x (List.mem_of_mem_take hx)
theorem szOk_drop {n k:Nat} {rows:List (List Dt)} (h:szOk n rows):szOk n (rows.drop k)=True:=eq_true fun x hx=>h x (List.mem_of_mem_drop hx)
theorem szOk_replicate {n k:Nat} {r:List Dt} (hr:r.length=n):szOk n (List.replicate k r)=True:=eq_true fun x hx=>by rw [(List.mem_replicate.1 hx).2]; exact hr
attribute [go_sem] List.length_map Int.toNat_natCast take_map' drop_map' append_map' bne_self_eq_false
attribute [go_sem] retE szOk_set szOk_append szOk_take szOk_drop szOk_replicate

def ixByte (s:List UInt8) (c:Int):Int:=Lib.indexByte s c.toNat.toUInt8
def cntByte (s:List UInt8) (c:Int):Int:=(s.count c.toNat.toUInt8:Nat)
def cmpB (a b:List UInt8):Int:=Lib.compareBytes a b
theorem ix_lt (c:UInt8):∀ s:List UInt8,-1≤Lib.indexByte s c∧(Lib.indexByte s c < s.length ∨ Lib.indexByte s c=-1)
 | []=>by simp [Lib.indexByte]
 | b::s=>by
  have:=ix_lt c s
  unfold Lib.indexByte
  simp only [List.length_cons]
  split
  ·omega
  ·split <;> (rename_i h; simp only [beq_iff_eq] at h; omega)
theorem ixByte_bd (s:List UInt8) (c:Int):-1≤ixByte s c∧(ixByte s c < s.length ∨ ixByte s c=-1):=ix_lt c.toNat.toUInt8 s
theorem cntByte_bd (s:List UInt8) (c:Int):0≤cntByte s c∧cntByte s c≤s.length:=by
 unfold cntByte
 have:=List.count_le_length (a:=c.toNat.toUInt8) (l:=s)
 omega
theorem cmpB_bd (a b:List UInt8):-1≤cmpB a b∧cmpB a b≤1:=by
 unfold cmpB
 induction a generalizing b with
 | nil=>cases b <;> simp [Lib.compareBytes]
 | cons x a ih =>
  cases b with
  | nil=>simp [Lib.compareBytes]
  | cons y b =>
   unfold Lib.compareBytes
   have:=ih b
   split
   ·omega
   ·split <;> omega
theorem Nv.indexByte {P:Program} {f:FuncId} {fn:Func} (hf:P.funcs[f]?=some fn) (hname:(fn.name == "runtime.NumGoroutine")=false) (hb:fn.body.isNone=true) (hn:Extern.findNext fn=none) (he:Extern.find fn=some Extern.BytealgIndexByte.indexByte) (s:List UInt8) (c:Int) :
  Nv P f [.p (.s s),.p (.i .u8 c)] (.p (.i .i64 (ixByte s c))):=by
 intro K w vals h
 simp only [VRs,VR,DR] at h
 obtain ⟨a,r,rfl,⟨rfl,hl⟩,b,r',rfl,⟨rfl,hc⟩,rfl⟩:=h
 refine ⟨.int .i64 (ixByte s c),?_,?_⟩
 ·rw [run_callFunc_extern hf hname hb hn he,Lib.run_indexByteString]
  simp only [Result.andThen,ixByte]
 ·simp only [VR,DR,true_and]
  have:=ixByte_bd s c
  simp only [Lim] at hl
  simp only [Fits,lo,hi]
  omega
theorem Nv.countByte {P:Program} {f:FuncId} {fn:Func} (hf:P.funcs[f]?=some fn) (hname:(fn.name == "runtime.NumGoroutine")=false) (hb:fn.body.isNone=true) (hn:Extern.findNext fn=none) (he:Extern.find fn=some Extern.BytealgCount.count) (s:List UInt8) (c:Int) :
  Nv P f [.p (.s s),.p (.i .u8 c)] (.p (.i .i64 (cntByte s c))):=by
 intro K w vals h
 simp only [VRs,VR,DR] at h
 obtain ⟨a,r,rfl,⟨rfl,hl⟩,b,r',rfl,⟨rfl,hc⟩,rfl⟩:=h
 refine ⟨.int .i64 (cntByte s c),?_,?_⟩
 ·rw [run_callFunc_extern hf hname hb hn he,Lib.run_countString]
  simp only [Result.andThen,cntByte,Lib.countByte]
 ·simp only [VR,DR,true_and]
  have:=cntByte_bd s c
  simp only [Lim] at hl
  simp only [Fits,lo,hi]
  omega
theorem Nv.compare {P:Program} {f:FuncId} {fn:Func} (hf:P.funcs[f]?=some fn) (hname:(fn.name == "runtime.NumGoroutine")=false) (hb:fn.body.isNone=true) (hn:Extern.findNext fn=none) (he:Extern.find fn=some Extern.BytealgCompare.compare) (a b:List UInt8) :
  Nv P f [.p (.s a),.p (.s b)] (.p (.i .i64 (cmpB a b))):=by
 intro K w vals h
 simp only [VRs,VR,DR] at h
 obtain ⟨x,r,rfl,⟨rfl,hl⟩,y,r',rfl,⟨rfl,hl'⟩,rfl⟩:=h
 refine ⟨.int .i64 (cmpB a b),?_,?_⟩
 ·rw [run_callFunc_extern hf hname hb hn he,Lib.run_compareString]
  simp only [Result.andThen,cmpB]
 ·simp only [VR,DR,true_and]
  have:=cmpB_bd a b
  simp only [Fits,lo,hi]
  omega

theorem bulkT_pos (d:Dt):1≤bulkT d:=by cases d <;> simp only [bulkT] <;> omega
theorem bulkR_pos {r:List Dt} (h:r ≠ []):1≤bulkR r:=by
 cases r with
 | nil=>exact absurd rfl h
 | cons d r=>simp only [bulkR]; have:=bulkT_pos d; omega
theorem bulk_mem {r:List Dt}:∀ {rows:List (List Dt)},r ∈ rows→bulkR r≤bulkRs rows
 | x::rows,h=>by
  simp only [bulkRs]
  rcases List.mem_cons.1 h with rfl | h
  ·omega
  ·have:=bulk_mem h; omega
theorem bulk_map_mem {α:Type} {f:α→List Dt} {l:List α} {x:α} (h:x ∈ l):bulkR (f x)≤bulkRs (l.map f):=bulk_mem (List.mem_map_of_mem h)
theorem bulk_map_len {α:Type} {f:α→List Dt} (hf:∀ x,f x ≠ []):∀ l:List α,l.length≤bulkRs (l.map f)
 | []=>by simp [bulkRs]
 | x::l=>by
  have:=bulk_map_len hf l
  have:=bulkR_pos (hf x)
  simp only [List.map_cons,bulkRs,List.length_cons]
  omega
end Go.Vc
/- Builders: calls that hand back what they are given; a pointer that is nil or an object's. -/
set_option linter.unusedSectionVars false
namespace Go.Vc
variable [Tabs]

def NvI (P:Program) (f:FuncId):Prop:=∀ (c:Value) (w:World),(callFunc f #[c]).run P w=.ok (.value c) w
theorem NvI.noEscape {P:Program} {f:FuncId} {fn:Func} (hf:P.funcs[f]?=some fn) (hname:(fn.name == "runtime.NumGoroutine")=false) (hb:fn.body.isNone=true) (hn:Extern.findNext fn=none) (he:Extern.find fn=some Extern.AbiNoEscape.same):NvI P f:=by
 intro c w
 rw [run_callFunc_extern hf hname hb hn he,Lib.run_noEscape]
 rfl

section
variable {P:Program} {kl:List Bool} {n:Nat} {B:Bs} {ops:Array Oper} {K:Env→List Ob→Prop} {E:Env} {H:List Ob}
theorem nativeI_wp {o:Oper} {c:Call} {fop:Operand} {f:FuncId} {caps:List Va} {v:Va} (hs:NvI P f) (ho:o.op=.call c) (hc:c.callee=.value fop)
  (hok:opOk true E fop∧allOk true E c.args.toList) (hf:opnd E fop=.fn f caps) (hv:opnds E c.args.toList++caps=[v]) {a:Act} {w:World} {Q:Exit→Act→World→Prop} {K':Act→World→Prop}
  (hR:Rel (cx P kl n B) E H a w) (hK:∀ c',RelV (cx P kl n B) E H c' v a w→K' (a.put o.dst c') w):o.wp P a w K' Q:=by
 obtain ⟨Kk,G,hX,hS,hE,hdf,hn,hkp⟩:=hR
 have hvf:=opnd_ok hE rfl fop hok.1
 rw [hf] at hvf
 simp only [VR] at hvf
 obtain ⟨cs,hcs,hcv⟩:=hvf
 have hargs:=opnds_ok hE rfl c.args.toList hok.2
 have hall:=hargs.append hcv
 rw [hv] at hall
 simp only [VRs] at hall
 obtain ⟨c',cs',hall1,hall2,rfl⟩:=hall
 unfold Oper.wp
 rw [native_run ho hc hcs,hall1,hs c' w]
 simp only [Oper.upon]
 exact hK c' ⟨Kk,G,hX,hS,hE,hdf,hn,hkp,hall2⟩
theorem Rg.callI {o:Oper} {l:List Oper} {f:FuncId} {v:Va} {g:Bool} (hs:NvI P f) (ha:Is (callArgsX E o) (some (f,[v]))) (hb:Is (guardX ops.toList E o) (some g)) (hok:callOk n g E o)
  (cont:RgEnd P kl n B ops K (run1 P kl n ops.toList l ⟨eput E o.dst (wrapG o.guard g v),H,True⟩)):Rg P kl n B ops (o::l) E H K:=by
 unfold Is callArgsX at ha
 unfold Is guardX at hb
 split at ha
 rotate_left
 ·cases ha
 rename_i c h1
 split at ha
 rotate_left
 ·cases ha
 rename_i fop h3
 split at ha
 rotate_left
 ·cases ha
 rename_i f' caps h4
 have ha':=Option.some.inj ha
 obtain rfl:f'=f:=congrArg Prod.fst ha'
 have hv:opnds E c.args.toList++caps=[v]:=congrArg Prod.snd ha'
 obtain ⟨hd,hk⟩:=callOk_spec hok h1 h3
 cases hg:o.guard with
 | none =>
  rw [hg] at hb
  obtain rfl:true=g:=Option.some.inj hb
  intro hB a w Q hR hK
  refine wpList_plain hg fun K' hK'=>?_
  refine nativeI_wp hs h1 h3 hk h4 hv hR fun c' hRV=>?_
  have c1:=cont
  rw [wrapG_none hg] at c1
  exact hK' _ _ (Rg.run c1 hB _ _ _ (hRV.put o.dst (dstOk_lt hd)) hK)
 | some gw =>
  obtain ⟨j,want⟩:=gw
  rw [hg] at hb
  intro hB a w Q hR hK
  have hw:=guardB_ok hR hg hb
  refine wpList_step fun K' hK'=>?_
  cases g with
  | true =>
   rw [if_pos hw]
   refine nativeI_wp hs h1 h3 hk h4 hv hR fun c' hRV=>?_
   have c1:=cont
   rw [wrapG_some hg] at c1
   have hRV:RelV (cx P kl n B) E H c' (.cnd true v) a w:=by
    obtain ⟨Kk,G,hX,hS,hE,hdf,hn,hkp,hv⟩:=hRV
    exact ⟨Kk,G,hX,hS,hE,hdf,hn,hkp,by simp only [VR]; exact ⟨fun _=>hv,fun e=>Bool.noConfusion e⟩⟩
   exact hK' _ _ (Rg.run c1 hB _ _ _ (hRV.put o.dst (dstOk_lt hd)) hK)
  | false =>
   rw [if_neg (by rw [hw]; simp)]
   obtain ⟨Kk,G,hX,hS,hE,hdf,hn,hkp⟩:=hR
   have hRV:RelV (cx P kl n B) E H undef (.cnd false v) a w:=⟨Kk,G,hX,hS,hE,hdf,hn,hkp,by simp [VR]⟩
   have c1:=cont
   rw [wrapG_some hg] at c1
   exact hK' _ _ (Rg.run c1 hB _ _ _ (hRV.put o.dst (dstOk_lt hd)) hK)
end

theorem callG_elim2 {Z A:Type} {z:Z} {g:Bool} {a:Option A} {d:A} {k:A→Option Z} (h:callG g a d k=some z):∃ x,(g=true→a=some x)∧(g=false→x=d)∧k x=some z:=by
 cases g with
 | true=>obtain ⟨x,h1,h2⟩:=call_elim h; exact ⟨x,fun _=>h1,fun e=>Bool.noConfusion e,h2⟩
 | false=>exact ⟨d,fun e=>Bool.noConfusion e,fun _=>rfl,h⟩
theorem Rel.forget {C:Cx} {E:Env} {H:List Ob} {a:Act} {w:World} {ids:List Nat} {X:List Ob} (hX:subH ids H ids=some X) (hids:idsOk H.length ids=true) (hR:Rel C E H a w) :
  Rel C (pruneE (keepF ids H) E) (setL (pruneH (keepF ids H) H) ids (bkOs ids H.length X)) a w:=by
 obtain ⟨Kk,G,h1,h2,h3,h4,h5,h6⟩:=hR
 obtain ⟨hnd,hlt⟩:=idsOk_spec hids
 obtain ⟨hl,hg⟩:=subH_get hX
 have hpl:(pruneH (keepF ids H) H).length=H.length:=by rw [pruneH_map,List.length_map]
 have hM:Mn Kk Kk w.heap w.heap:=⟨fun _ h=>h,fun _ _=>rfl⟩
 have hMg:Mg (keepF ids H) G G:=fun _ _ _ h=>h
 have hxl:ids.length≤(bkOs ids H.length X).length:=by rw [bkOs_length]; omega
 have hlen:(setL (pruneH (keepF ids H) H) ids (bkOs ids H.length X)).length=H.length:=by rw [setL_length hxl,bkOs_length,hpl]; omega
 have key:∀ (o:Nat) (y:Ob),(setL (pruneH (keepF ids H) H) ids (bkOs ids H.length X))[o]?=some y→∃ x,H[o]?=some x∧(y=x ∨ y=x.prune (keepF ids H)):=by
  intro o y hy
  rcases setL_cases hnd (fun i hi=>by rw [hpl]; exact hlt i hi) hxl hy with ⟨j,hj,h⟩ | ⟨_,_,h⟩ | ⟨j,hj,_,h⟩
  ·rw [bkOs_get] at h
   obtain ⟨x,hx,hr⟩:=hg j o hj
   rw [hx] at h
   simp only [Option.map_some,bk_rnO hr,Option.some.injEq] at h
   have hol:=hlt o (List.mem_of_getElem? hj)
   rw [obAt_eq (List.getElem?_eq_getElem hol)] at h
   exact ⟨_,List.getElem?_eq_getElem hol,.inl h.symm⟩
  ·rw [pruneH_map,List.getElem?_map] at h
   cases hx:H[o]? with
   | none=>rw [hx] at h; cases h
   | some x=>rw [hx] at h; exact ⟨x,rfl,.inr (Option.some.inj h).symm⟩
  ·have:=(List.getElem?_eq_some_iff.1 h).1
   rw [bkOs_length] at this
   omega
 refine ⟨Kk,G,h1,⟨by rw [hlen]; exact h2.len,h2.kb,h2.gbo,h2.ijo,fun o g y hgo hy=>?_,h2.tb⟩,fun m=>by rw [get_pruneE]; exact VR.prune hM hMg _ _ (h3 m),h4,h5,fun o ho=>?_⟩
 ·obtain ⟨x,hx,rfl | rfl⟩:=key o y hy
  ·exact h2.ob o g _ hgo hx
  ·exact ObR.prune hM hMg (fun _ _=>rfl) (h2.ob o g _ hgo hx)
 ·obtain ⟨x,hx,hk⟩:=h6 o ho
  have hol:=(List.getElem?_eq_some_iff.1 hx).1
  obtain ⟨x',hx',h⟩:=key o _ (List.getElem?_eq_getElem (by rw [hlen]; exact hol))
  rw [hx] at hx'; cases hx'
  refine ⟨_,List.getElem?_eq_getElem (by rw [hlen]; exact hol),?_⟩
  rcases h with h | h
  ·rw [h]; exact hk
  ·rw [h]; exact Ob.prune_kept hk
section
variable {P:Program} {kl:List Bool} {n:Nat} {B:Bs} {ops:Array Oper} {K:Env→List Ob→Prop} {E:Env} {H:List Ob}
theorem Rg.callGO {o:Oper} {l:List Oper} {f:FuncId} {av args:List Va} {X Y:List Ob} {g:Bool} {v:Va} (ids:List Nat) (hs:g=true→Does P f args X fun r X'=>r=v∧X'=Y) (hY:g=false→Y=X) (ha:Is (callArgsX E o) (some (f,av))) (hb:Is (guardX ops.toList E o) (some g)) (hp:Is (rnAs ids av) (some args)) (hXs:Is (subH ids H ids) (some X)) (hids:idsOk H.length ids=true) (hok:callOk n g E o)
  (cont:RgEnd P kl n B ops K (run1 P kl n ops.toList l ⟨eput (pruneE (keepF ids H) E) o.dst (wrapG o.guard g (bkV ids H.length v)),setL (pruneH (keepF ids H) H) ids (bkOs ids H.length Y),True⟩)):Rg P kl n B ops (o::l) E H K:=by
 unfold Is callArgsX at ha
 unfold Is guardX at hb
 split at ha
 rotate_left
 ·cases ha
 rename_i c h1
 split at ha
 rotate_left
 ·cases ha
 rename_i fop h3
 split at ha
 rotate_left
 ·cases ha
 rename_i f' caps h4
 cases ha
 obtain ⟨hd,hk⟩:=callOk_spec hok h1 h3
 have hrun:=Rg.run cont
 intro hB a w Q hR hKK
 cases hg:o.guard with
 | none =>
  rw [hg] at hb
  obtain rfl:true=g:=Option.some.inj hb
  refine wpList_plain hg fun K' hK'=>?_
  rw [wrapG_none hg] at hrun
  refine callO_wp ids (hs rfl) h1 h3 hk h4 hp hXs hids hR fun c' r X' w' ⟨h5,h6⟩ _ hRV=>?_
  subst h5; subst h6
  exact hK' _ _ (hrun hB _ _ _ (hRV.put o.dst (dstOk_lt hd)) hKK)
 | some gw =>
  obtain ⟨j,want⟩:=gw
  rw [hg] at hb
  have hw:=guardB_ok hR hg hb
  rw [wrapG_some hg] at hrun
  refine wpList_step fun K' hK'=>?_
  cases g with
  | true =>
   rw [if_pos hw]
   refine callO_wp ids (hs rfl) h1 h3 hk h4 hp hXs hids hR fun c' r X' w' ⟨h5,h6⟩ _ hRV=>?_
   subst h5; subst h6
   exact hK' _ _ (hrun hB _ _ _ (RelV.put (v:=.cnd true _) (by
    obtain ⟨Kk,G,q1,q2,q3,q4,q5,q6,q7⟩:=hRV
    exact ⟨Kk,G,q1,q2,q3,q4,q5,q6,by simp only [VR]; exact ⟨fun _=>q7,fun e=>Bool.noConfusion e⟩⟩) o.dst (dstOk_lt hd)) hKK)
  | false =>
   rw [if_neg (by rw [hw]; simp)]
   rw [hY rfl] at hrun
   obtain ⟨Kk,G,hX,hS,hE,hdf,hn,hkp'⟩:=hR.forget hXs hids
   exact hK' _ _ (hrun hB _ _ _ (RelV.put (C:=cx P kl n B) (v:=.cnd false _) ⟨Kk,G,hX,hS,hE,hdf,hn,hkp',by simp [VR]⟩ o.dst (dstOk_lt hd)) hKK)
end

def restKept (s:Nat) (H:List Ob):List Nat→Bool
 | []=>true
 | i::ids=>((obAt H i).kept || decide (i=s)) && restKept s H ids
def oneStale (s:Nat) (H:List Ob) (ids:List Nat):Bool:=ids.contains s && !(obAt H s).kept && restKept s H ids
theorem keepF_stale {s:Nat} {H:List Ob} {ids:List Nat} (h:oneStale s H ids=true):keepF ids H=(· != s):=by
 simp only [oneStale,Bool.and_eq_true] at h
 obtain ⟨⟨h1,h2⟩,h3⟩:=h
 have key:∀ (l:List Nat) (o:Nat),restKept s H l=true→o ∈ l→o ≠ s→(obAt H o).kept=true:=by
  intro l
  induction l with
  | nil=>intro o _ ho; cases ho
  | cons i l ih =>
   intro o hr ho hne
   simp only [restKept,Bool.and_eq_true,Bool.or_eq_true,decide_eq_true_eq] at hr
   rcases List.mem_cons.1 ho with rfl | ho
   ·rcases hr.1 with h | h
    ·exact h
    ·exact absurd h hne
   ·exact ih o hr.2 ho hne
 funext o
 simp only [keepF]
 by_cases ho:o=s
 ·subst ho
  have hk:(obAt H o).kept=false:=by simpa using h2
  rw [h1,hk]; simp
 ·by_cases hm:o ∈ ids
  ·rw [key ids o h3 hm ho]; simp [ho]
  ·have:ids.contains o=false:=by simpa using hm
   rw [this]; simp [ho]
section
variable {P:Program} {kl:List Bool} {n:Nat} {B:Bs} {ops:List Oper} {K:Env→List Ob→Prop} {l:Plan} {obs:List En} {E:Env} {H:List Ob}
theorem Br.callS {k:Nat} {L:List Nat} {f:FuncId} {av args:List Va} {X Y:List Ob} {o:Oper} {v:Va} (s:Nat) (ids:List Nat) (hs:Does P f args X fun r X'=>r=v∧X'=Y) (hk:Is ops[k]? (some o)) (hg:Is o.guard none) (ha:Is (callArgsX E o) (some (f,av))) (hp:Is (rnAs ids av) (some args)) (hXs:Is (subH ids H ids) (some X)) (hids:idsOk H.length ids=true) (hkp:oneStale s H ids=true) (hok:callOk n true E o)
  (hag:againAll L (some (· != s)) (setL (pruneH (· != s) H) ids (bkOs ids H.length Y)) obs)
  (cont:RdEnd P kl n B ops.toArray K (runD P kl n ops l ⟨obs,eput (pruneE (· != s) E) o.dst (bkV ids H.length v),setL (pruneH (· != s) H) ids (bkOs ids H.length Y),True⟩)):Br P kl n B ops.toArray k L l obs E H K:=by
 unfold Is at *
 unfold callArgsX at ha
 split at ha
 rotate_left
 ·cases ha
 rename_i c h1
 split at ha
 rotate_left
 ·cases ha
 rename_i fop h3
 split at ha
 rotate_left
 ·cases ha
 rename_i f' caps h4
 cases ha
 obtain ⟨hd,hk1,hk2⟩:=callOk_spec hok h1 h3
 have h':=Dr.run cont
 simp only at h'
 rw [← dst_eq hk] at h'
 refine Br.eff (po:=some (· != s)) (fun _=>?_) hag h'
 intro E' hE' a w Q K' hR hK
 have hop:=looks_op (getA hk) hE'
 rw [h1] at hop
 have hfo:rnd E fop=rnd E' fop:=hop fop (by simp [Op.operands,Call.operands,h3])
 have hag':Agree c.args.toList E E':=fun x hx=>hop x (by simp only [Op.operands,Call.operands,Array.toList_append,List.mem_append]; exact .inr hx)
 rw [Agree.opOk hfo] at hk1
 rw [Agree.allOk hag'] at hk2
 rw [Agree.opnd hfo] at h4
 rw [Agree.opnds hag'] at hp
 rw [dst_eq hk] at hK
 unfold wpOp
 simp only [getA hk]
 rw [if_pos (by simp [Region.wanted,hg])]
 refine .inl (callO_wp ids hs h1 h3 ⟨hk1,hk2⟩ h4 hp hXs hids hR fun c' r X' w' ⟨hr,hX⟩ _ hRV=>?_)
 subst hr; subst hX
 rw [keepF_stale hkp] at hRV
 exact hK _ _ (hRV.put o.dst (dstOk_lt hd))
end
attribute [go_sem] restKept oneStale

theorem unB_append:∀ a b:List (List Dt),unB (a++b)=unB a++unB b
 | [],b=>rfl
 | []::a,b=>by simp only [List.cons_append,unB,unB_append a b]
 | [.i _ n]::a,b=>by simp only [List.cons_append,unB,unB_append a b]
 | [.b _]::a,b=>by simp only [List.cons_append,unB,unB_append a b]
 | [.s _]::a,b=>by simp only [List.cons_append,unB,unB_append a b]
 | [.l _]::a,b=>by simp only [List.cons_append,unB,unB_append a b]
 | [.a _]::a,b=>by simp only [List.cons_append,unB,unB_append a b]
 | [.r _]::a,b=>by simp only [List.cons_append,unB,unB_append a b]
 | (_::_::_)::a,b=>by simp only [List.cons_append,unB,unB_append a b]
theorem allB_append:∀ a b:List (List Dt),allB (a++b)=(allB a∧allB b)
 | [],b=>by simp [allB]
 | []::a,b=>by simp [allB]
 | [.i _ n]::a,b=>by simp [allB,allB_append a b,and_assoc]
 | [.b _]::a,b=>by simp [allB]
 | [.s _]::a,b=>by simp [allB]
 | [.l _]::a,b=>by simp [allB]
 | [.a _]::a,b=>by simp [allB]
 | [.r _]::a,b=>by simp [allB]
 | (_::_::_)::a,b=>by simp [allB]
theorem strOf_append (a b:List Int):strOf (a++b)=strOf a++strOf b:=by simp only [strOf,List.map_append]
theorem strOf_nil:strOf []=[]:=rfl
theorem strOf_cons (n:Int) (l:List Int):strOf (n::l)=UInt8.ofNat n.toNat::strOf l:=rfl
theorem strOf_bytesOf (s:Str):strOf (bytesOf s)=s:=by
 simp only [strOf,bytesOf,List.map_map]
 refine Eq.trans (List.map_congr_left fun b _=>?_) (List.map_id _)
 simp
theorem bytesOf_length (s:Str):(bytesOf s).length=s.length:=by simp only [bytesOf,List.length_map]
attribute [go_sem] unB_append allB_append allB strOf_append strOf_nil strOf_cons unB strOf_bytesOf bytesOf_length
theorem sd {p:Prop} (h:p:=by (repeat' apply And.intro) <;> first | assumption | omega | (intros; omega) | (intro hg; simp only [Bool.and_eq_true,Bool.or_eq_true,Bool.not_eq_true',decide_eq_true_eq,decide_eq_false_iff_not] at hg; omega) | (simp only [Bool.and_eq_true,Bool.or_eq_true,Bool.not_eq_true',Bool.and_eq_false_iff,Bool.or_eq_false_iff,Bool.not_eq_false',decide_eq_true_eq,decide_eq_false_iff_not]; omega) | (intros; simp only [*,Bool.not_false,Bool.not_true,Bool.and_self,Bool.or_self,Bool.and_true,Bool.true_and,Bool.and_false,Bool.or_true,Bool.or_false]; done) | (simp_all; done) | (simp_all <;> intros <;> omega) | grind):p:=h

theorem St.cell {K:Nat→Prop} {G:List Gh} {H:List Ob} {w:World} (hS:St K G H w) {o off:Nat} {T:TypeId} {vs:List Va} {v':Va} (ho:H[o]?=some (.cells T vs)) (h:∀ c v,vs[off]?=some v→VR K w.heap G c v→VR K w.heap G c v') :
  St K G (H.set o (.cells T (vs.set off v'))) w:=by
 have hol:=(List.getElem?_eq_some_iff.1 ho).1
 refine ⟨by simpa using hS.len,hS.kb,hS.gbo,hS.ijo,fun i g x hg hx=>?_,hS.tb⟩
 by_cases e:i=o
 ·subst e
  rw [List.getElem?_set_self hol] at hx
  cases hx
  obtain ⟨b,cs,r1,r2,r3⟩:=hS.ob i g _ hg ho
  refine ⟨b,cs,r1,r2,?_⟩
  cases hv:vs[off]? with
  | none=>rwa [List.set_eq_of_length_le (by rw [List.getElem?_eq_none_iff] at hv; exact hv)]
  | some v =>
   obtain ⟨c0,hc0,hv0⟩:=r3.get off _ hv
   have:=r3.set (h _ _ hv hv0) off
   rwa [show cs.set off c0=cs by
    apply List.ext_getElem?
    intro j
    by_cases hj:off=j
    ·subst hj; rw [List.getElem?_set_self (List.getElem?_eq_some_iff.1 hc0).1,hc0]
    ·rw [List.getElem?_set_ne hj]] at this
 ·rw [List.getElem?_set_ne (Ne.symm e)] at hx
  exact hS.ob i g x hg hx
theorem Does.np {P:Program} {f:FuncId} {args:List Va} {T:TypeId} {vs vs':List Va} {X Y:List Ob} {v:Va}
  (h1:Does P f args (.cells T (.nil::vs)::X) fun r Z=>r=v∧Z=.cells T (.ptr 0 0::vs')::Y)
  (h2:Does P f args (.cells T (.ptr 0 0::vs)::X) fun r Z=>r=v∧Z=.cells T (.ptr 0 0::vs')::Y) :
  Does P f args (.cells T (.np 0::vs)::X) fun r Z=>r=v∧Z=.cells T (.np 0::vs')::Y:=by
 refine ⟨h1.1,fun K G w vals hS hv=>?_⟩
 have fin:∀ {e:Ending} {w':World},(∃ c r X' K' G',e=.returned c∧(r=v∧X'=.cells T (.ptr 0 0::vs')::Y)∧Ext (kpf (true::kinds X)) K G w K' G' w'∧St K' G' X' w'∧VR K' w'.heap G' c r∧kpOk (kpf (true::kinds X)) X') →
   ∃ c r X' K' G',e=.returned c∧(r=v∧X'=.cells T (.np 0::vs')::Y)∧Ext (kpf (true::kinds X)) K G w K' G' w'∧St K' G' X' w'∧VR K' w'.heap G' c r∧kpOk (kpf (true::kinds X)) X':=by
  rintro e w' ⟨c,r,X',K',G',e1,⟨e2,rfl⟩,e3,e4,e5,e6⟩
  refine ⟨c,r,_,K',G',e1,⟨e2,rfl⟩,e3,?_,e5,fun i hi=>?_⟩
  ·have:=e4.cell (o:=0) (off:=0) (v':=.np 0) rfl (fun c v hv hc=>by cases hv; simp only [VR] at *; exact .inr hc)
   simpa using this
  ·obtain ⟨x,hx,hk⟩:=e6 i hi
   cases i with
   | zero=>exact ⟨_,rfl,rfl⟩
   | succ i=>exact ⟨x,by simpa using hx,hk⟩
 -- the address
 have hlen:=hS.len
 have h0:∃ g,G[0]?=some g:=by
  have:0 < G.length:=by rw [hlen]; simp
  exact ⟨_,List.getElem?_eq_getElem this⟩
 obtain ⟨g,hg⟩:=h0
 obtain ⟨b,cs,r1,r2,r3⟩:=hS.ob 0 g _ hg rfl
 simp only [VRs] at r3
 obtain ⟨c0,cs0,rfl,hc0,hcs0⟩:=r3
 have key:∀ v0,VR K w.heap G c0 v0→St K G (.cells T (v0::vs)::X) w:=by
  intro v0 hv0
  refine ⟨by simpa using hlen,hS.kb,hS.gbo,hS.ijo,fun i g' x hg' hx=>?_,hS.tb⟩
  cases i with
  | zero =>
   obtain rfl:g=g':=Option.some.inj (hg.symm.trans hg')
   cases hx
   exact ⟨b,c0::cs0,r1,r2,by simp only [VRs]; exact ⟨c0,cs0,rfl,hv0,hcs0⟩⟩
  | succ i=>exact hS.ob (i+1) g' x hg' (by simpa using hx)
 simp only [VR] at hc0
 rcases hc0 with hc0 | hc0
 ·exact (h1.2 K G w vals (key .nil (by simp only [VR]; exact hc0)) hv).mono fun e w' hh=>fin hh
 ·exact (h2.2 K G w vals (key (.ptr 0 0) (by simp only [VR]; exact hc0)) hv).mono fun e w' hh=>fin hh
end Go.Vc
/- Operations whose answer the model leaves open: how much a slice holds. The walk goes on with whatever it is. -/
set_option linter.unusedSectionVars false
namespace Go.Vc
variable [Tabs]

section
variable {α β:Type}
open Classical in
noncomputable def anyOf (p:α→Prop) (k:α→Option β):Option β:=if h:∃ z,∀ x,p x→k x=some z then some h.choose else none
omit [Tabs] in
theorem anyOf_elim {p:α→Prop} {k:α→Option β} {z:β} (h:anyOf p k=some z):∀ x,p x→k x=some z:=by
 unfold anyOf at h
 split at h
 ·rename_i hh
  cases h
  exact hh.choose_spec
 ·cases h
omit [Tabs] in
theorem anyOf_intro {p:α→Prop} {k:α→Option β} {z:β} (h0:∃ x,p x) (h:∀ x,p x→k x=some z):anyOf p k=some z:=by
 have hh:∃ z,∀ x,p x→k x=some z:=⟨z,h⟩
 unfold anyOf
 rw [dif_pos hh]
 obtain ⟨x,hx⟩:=h0
 have h1:=hh.choose_spec x hx
 rw [h x hx] at h1
 exact h1.symm
end

section
variable {P:Program} {kl:List Bool} {n:Nat} {B:Bs} {ops:Array Oper} {K:Env→List Ob→Prop} {E:Env} {H:List Ob}
theorem Rg.any {o:Oper} {l:List Oper} (hg:o.guard=none) (hd:dstOk n o.dst) {I:Va→List Ob→Prop}
  (hrun:∀ a w,Rel (cx P kl n B) E H a w→∃ c w' v H',(execOp a.eval o).run P w=.ok (.value c) w'∧I v H'∧RelV (cx P kl n B) E H' c v a w')
  (cont:∀ v H',I v H'→RgEnd P kl n B ops K (run1 P kl n ops.toList l ⟨eput E o.dst v,H',True⟩)):Rg P kl n B ops (o::l) E H K:=by
 intro hB a w Q hR hK
 refine wpList_plain hg fun K' hK'=>?_
 obtain ⟨c,w',v,H',h1,h2,h3⟩:=hrun a w hR
 unfold Oper.wp
 rw [h1]
 simp only [Oper.upon]
 exact hK' _ _ (Rg.run (cont v H' h2) hB _ _ _ (h3.put o.dst (dstOk_lt hd)) hK)

theorem Wp.capO {Q:Qt} {c:Code} (i j o:Nat) {T:TypeId} {vs:List Va} (hi:Is H[i]? (some (.cells T vs))) (hj:Is vs[j]? (some (.buf o))) {m:Nat} (hm:Is ((rowsB H o).map List.length) (some m))
  (hc:∀ cp:Nat,m≤cp→cp≤9223372036854775807→Wp P kl n B c Q E (H.set i (.cells T (vs.set j (.bufc o cp))))):Wp P kl n B c Q E H:=by
 unfold Is at hi hj hm
 intro hB a w hR
 have hR':=hR
 obtain ⟨Kk,G,r1,hS,r3,r4,r5,r6⟩:=hR
 cases hrb:rowsB H o with
 | none=>rw [hrb] at hm; cases hm
 | some rows =>
  rw [hrb] at hm
  have hm':rows.length=m:=Option.some.inj hm
  obtain ⟨g,hg,hob⟩:=hS.ghost hi
  obtain ⟨b,cs,q1,q2,q3⟩:=hob
  obtain ⟨c0,_,hv0⟩:=q3.get j _ hj
  simp only [VR] at hv0
  obtain ⟨go,hgo,rfl,a0,n0,cp0,hsv⟩:=hv0
  have key:m≤cp0∧cp0≤maxLen:=by
   unfold rowsB at hrb
   split at hrb
   ·rename_i T' bs ho
    cases hrb
    obtain ⟨hlim,hh⟩:=hS.ob _ go _ hgo (obAt_some ho (by simp))
    have hbl:(bR bs).length=bs.length:=by simp [bR]
    rcases hh with ⟨h1,rfl,_⟩ | ⟨b,cap,cur,fr,hsv2,hgb,hb,hfr,h4,h5,h6,h7,h8⟩
    ·rw [h1] at hsv; cases hsv; simp [bR] at hm'; subst hm'; simp
    ·rw [hsv2] at hsv; cases hsv; omega
   ·obtain ⟨⟨T',sz,rows',fx⟩,ho,hx⟩:=Option.map_eq_some_iff.1 hrb
    cases hx
    simp only at hm'
    obtain ⟨hlim,xs,hxs,hh⟩:=hS.bufOb ho hgo
    rcases hh with ⟨⟨a,h1⟩,rfl,_⟩ | ⟨b,cap,cur,fr,hsv2,hgb,hb,hfr,h4,h5,h6,h7⟩
    ·rw [h1] at hsv; cases hsv; simp at hm'; subst hm'; simp
    ·rw [hsv2] at hsv; cases hsv; omega
  refine hc cp0 key.1 (by have:=key.2; simp only [maxLen] at this; omega) hB a w ⟨Kk,G,r1,hS.cell hi (fun c v hv hcv=>?_),r3,r4,r5,fun x hx=>?_⟩
  ·rw [hj] at hv
   cases hv
   simp only [VR] at hcv ⊢
   obtain ⟨g',hg',rfl,_⟩:=hcv
   obtain rfl:g'=go:=Option.some.inj (hg'.symm.trans hgo)
   exact ⟨g',a0,n0,cp0,hg',hsv,rfl,rfl⟩
  ·obtain ⟨y,hy,hk⟩:=r6 x hx
   by_cases e:x=i
   ·subst e
    exact ⟨_,List.getElem?_set_self (List.getElem?_eq_some_iff.1 hi).1,rfl⟩
   ·exact ⟨y,by rw [List.getElem?_set_ne (Ne.symm e)]; exact hy,hk⟩
theorem Wp.capE {Q:Qt} {c:Code} (i j o cp:Nat) {T:TypeId} {vs:List Va} (hi:Is H[i]? (some (.cells T vs))) (hj:Is vs[j]? (some (.bufc o cp)))
  (hc:Wp P kl n B c Q E (H.set i (.cells T (vs.set j (.buf o))))):Wp P kl n B c Q E H:=by
 unfold Is at hi hj
 intro hB a w hR
 obtain ⟨Kk,G,r1,hS,r3,r4,r5,r6⟩:=hR
 refine hc hB a w ⟨Kk,G,r1,hS.cell hi (fun c v hv hcv=>?_),r3,r4,r5,fun x hx=>?_⟩
 ·rw [hj] at hv
  cases hv
  simp only [VR] at hcv ⊢
  obtain ⟨g,a,n,cap,h1,h2,h3,_⟩:=hcv
  exact ⟨g,h1,h3,a,n,cap,h2⟩
 ·obtain ⟨y,hy,hk⟩:=r6 x hx
  by_cases e:x=i
  ·subst e
   exact ⟨_,List.getElem?_set_self (List.getElem?_eq_some_iff.1 hi).1,rfl⟩
  ·exact ⟨y,by rw [List.getElem?_set_ne (Ne.symm e)]; exact hy,hk⟩
omit [Tabs] in
theorem encM_len {Kt V:Type} (kd:Kt→Dt) (e:V→List Dt) (l:List (Kt × V)):(encM kd e l).length=l.length:=by simp [encM]
end
attribute [go_sem] encM_len
end Go.Vc
/- Ranges over maps: in whatever order. -/
set_option linter.unusedSectionVars false
namespace Go.Vc
variable [Tabs]

section
variable {α β S:Type}
noncomputable def forM (f:α→S→(S→Option β)→(S→Option β)→Option β):Nat→List α→S→(S→Option β)→Option β
 | 0,_,s,k=>k s
 | n+1,r,s,k=>anyOf (fun j:Nat=>j < r.length) fun j=>match r[j]? with
  | some x=>f x s (fun s'=>forM f n (r.eraseIdx j) s' k) k
  | none=>none
theorem forM_cont {z:β} {f:α→S→(S→Option β)→(S→Option β)→Option β} {n:Nat} {r:List α} {s:S} {F:S→Option β} (h:forM f n r s F=some z):∃ k,(∀ s,k s=some z→F s=some z)∧forM f n r s k=some z:=⟨F,fun _ h=>h,h⟩
theorem forM_end {z:β} {f:α→S→(S→Option β)→(S→Option β)→Option β} {r:List α} {s:S} {k:S→Option β} (h:forM f r.length r s k=some z) (hr:r.length=0):k s=some z:=by
 rw [hr] at h; exact h
theorem forM_step {z:β} {f:α→S→(S→Option β)→(S→Option β)→Option β} {r:List α} {s:S} {k:S→Option β} (h:forM f r.length r s k=some z) {j:Nat} (hj:j < r.length) :
  ∃ x nx,r[j]?=some x∧(∀ s',nx s'=some z→forM f (r.eraseIdx j).length (r.eraseIdx j) s' k=some z)∧f x s nx k=some z:=by
 obtain ⟨n,hn⟩:∃ n,r.length=n+1:=⟨r.length - 1,by omega⟩
 rw [hn] at h
 simp only [forM] at h
 have h1:=anyOf_elim h j hj
 rw [List.getElem?_eq_getElem hj] at h1
 exact ⟨r[j],fun s'=>forM f n (r.eraseIdx j) s' k,List.getElem?_eq_getElem hj,fun s' hs=>by rw [show (r.eraseIdx j).length=n by rw [List.length_eraseIdx,if_pos hj]; omega]; exact hs,h1⟩
def left:List Nat→List Nat→List α→List α
 | b::bs,seen,x::l=>bif seen.contains b then left bs seen l else x::left bs seen l
 | _,_,_=>[]
theorem left_nil:∀ (bs:List Nat) (l:List α),l.length=bs.length→left bs [] l=l
 | [],[],_=>rfl
 | b::bs,x::l,h=>by simp only [left,List.contains_nil,cond_false]; rw [left_nil bs l (by simpa using h)]
 | [],_::_,h=>by simp at h
 | _::_,[],h=>by simp at h
theorem left_length {γ:Type} {seen:List Nat}:∀ {bs:List Nat} {l:List α} {m:List γ},l.length=bs.length→m.length=bs.length→(left bs seen l).length=(left bs seen m).length
 | [],[],[],_,_=>rfl
 | b::bs,x::l,y::m,h,h'=>by
  have ih:=left_length (seen:=seen) (bs:=bs) (l:=l) (m:=m) (by simpa using h) (by simpa using h')
  simp only [left]
  cases seen.contains b <;> simp [ih]
 | [],_::_,_,h,_=>by simp at h
 | [],[],_::_,_,h=>by simp at h
 | _::_,[],_,h,_=>by simp at h
 | _::_,_::_,[],_,h=>by simp at h
theorem left_map {γ:Type} (g:α→γ) (seen:List Nat):∀ (bs:List Nat) (l:List α),left bs seen (l.map g)=(left bs seen l).map g
 | [],_=>by simp [left]
 | _::_,[]=>by simp [left]
 | b::bs,x::l=>by
  simp only [List.map_cons,left,left_map g seen bs l]
  cases seen.contains b <;> rfl
theorem left_filter {γ:Type} (g:γ→Nat) (seen:List Nat):∀ (l:List γ),left (l.map g) seen l=l.filter fun x=>!seen.contains (g x)
 | []=>rfl
 | x::l=>by
  simp only [List.map_cons,left,left_filter g seen l,List.filter_cons]
  cases seen.contains (g x) <;> rfl
theorem left_encM {Kt V:Type} (kd:Kt→Dt) (e:V→List Dt) (bs seen:List Nat) (l:List (Kt × V)):left bs seen (encM kd e l)=encM kd e (left bs seen l):=left_map _ seen bs l
structure NextOk (bs seen:List Nat) (j p st:Nat):Prop where
 hp:bs[p]?=some st
 er:∀ {α:Type} (l:List α),l.length=bs.length→j < (left bs seen l).length∧left bs (seen++[st]) l=(left bs seen l).eraseIdx j∧(left bs seen l)[j]?=l[p]?
theorem left_out {b:Nat} {seen:List Nat}:∀ {bs:List Nat},b ∉ bs→∀ {α:Type} (l:List α),l.length=bs.length→left bs (seen++[b]) l=left bs seen l
 | [],_,_,l,_=>by cases l <;> rfl
 | c::bs,hb,_,[],h=>by simp at h
 | c::bs,hb,_,x::l,h=>by
  have hc:¬ c=b:=fun e=>hb (by simp [e])
  have:(seen++[b]).contains c=seen.contains c:=by
   rw [Bool.eq_iff_iff]
   simp [hc]
  simp only [left,this,left_out (fun h=>hb (List.mem_cons_of_mem _ h)) l (by simpa using h)]
theorem nextOk {bs seen:List Nat} (hn:bs.Nodup) {j:Nat} (hj:j < (left bs seen bs).length):∃ p st,NextOk bs seen j p st∧(left bs seen bs)[j]?=some st:=by
 induction bs generalizing j with
 | nil=>simp [left] at hj
 | cons b bs ih =>
  have hn':=List.nodup_cons.1 hn
  have hc:∀ {α:Type} (x:α) (l:List α) (sn:List Nat),left (b::bs) sn (x::l)=bif sn.contains b then left bs sn l else x::left bs sn l:=fun _ _ _=>rfl
  have hout:∀ {α:Type} (l:List α),l.length=bs.length→left bs (seen++[b]) l=left bs seen l:=fun l hl=>left_out hn'.1 l hl
  cases hs:seen.contains b with
  | true =>
   have h1:left (b::bs) seen (b::bs)=left bs seen bs:=by rw [hc,hs]; rfl
   rw [h1] at hj
   obtain ⟨p,st,⟨q1,q2⟩,q3⟩:=ih hn'.2 hj
   refine ⟨p+1,st,⟨by simpa using q1,?_⟩,by rw [h1]; exact q3⟩
   intro α l hl
   cases l with
   | nil=>simp at hl
   | cons x l =>
    have hs':(seen++[st]).contains b=true:=by simp at hs ⊢; exact .inl hs
    obtain ⟨r1,r2,r3⟩:=q2 l (by simpa using hl)
    rw [hc,hs,hc,hs']
    exact ⟨r1,r2,by simpa using r3⟩
  | false =>
   have h1:left (b::bs) seen (b::bs)=b::left bs seen bs:=by rw [hc,hs]; rfl
   rw [h1] at hj
   cases j with
   | zero =>
    refine ⟨0,b,⟨rfl,?_⟩,by rw [h1]; rfl⟩
    intro α l hl
    cases l with
    | nil=>simp at hl
    | cons x l =>
     have hs':(seen++[b]).contains b=true:=by simp
     rw [hc,hs,hc,hs']
     exact ⟨by simp,by simp only [cond_true,cond_false,List.eraseIdx_zero,List.tail_cons]; exact hout l (by simpa using hl),rfl⟩
   | succ j =>
    obtain ⟨p,st,⟨q1,q2⟩,q3⟩:=ih hn'.2 (by simpa using hj)
    refine ⟨p+1,st,⟨by simpa using q1,?_⟩,by rw [h1]; simpa using q3⟩
    intro α l hl
    cases l with
    | nil=>simp at hl
    | cons x l =>
     have hb:b ≠ st:=fun e=>hn'.1 (e ▸ List.mem_of_getElem? q1)
     have hs':(seen++[st]).contains b=false:=by simp at hs ⊢; exact ⟨hs,hb⟩
     obtain ⟨r1,r2,r3⟩:=q2 l (by simpa using hl)
     rw [hc,hs,hc,hs']
     exact ⟨by simpa using r1,by simp [r2],by simpa using r3⟩
end

section
variable {P:Program} {kl:List Bool} {n:Nat} {B:Bs} {Q:Qt} {E:Env} {H:List Ob}
theorem Wp.forM {Z S α:Type} {z:Z} {f:α→S→(S→Option Z)→(S→Option Z)→Option Z} {k:S→Option Z} {l:List α} {bs:List Nat} {c:Code} {s0:S} (live:List Nat→S→Env) (objs:List Nat→S→List Ob) (hb:l.length=bs.length)
  (h0:Weak kl E H (live [] s0) (objs [] s0)) (hm:Vc.forM f l.length l s0 k=some z)
  (round:∀ (seen:List Nat) (s:S),Vc.forM f (left bs seen l).length (left bs seen l) s k=some z→Wp P kl n B c (thenQ (fun E' H'=>∃ seen' s',(left bs seen' l).length < (left bs seen l).length∧Vc.forM f (left bs seen' l).length (left bs seen' l) s' k=some z∧Weak kl E' H' (live seen' s') (objs seen' s')) Q) (live seen s) (objs seen s)):Wp P kl n B (.loop c) Q E H:=by
 refine Wp.loop (S:=List Nat × S) (fun t=>live t.1 t.2) (fun t=>objs t.1 t.2) (fun t=>Vc.forM f (left bs t.1 l).length (left bs t.1 l) t.2 k=some z) (fun t=>(left bs t.1 l).length) ([],s0) h0 (by simp only [left_nil bs l hb]; exact hm) fun t h2=>(round t.1 t.2 h2).mono fun e E' H' h=>?_
 cases e with
 | normal=>obtain ⟨sn,s',h3,h4,h5⟩:=h; exact ⟨(sn,s'),h4,h3,h5⟩
 | _=>exact h
end

theorem MRs.left {K:Nat→Prop} {h:Array Obj} {ag:Bool} {seen:List Nat}:∀ {mes:List MapEntry} {es:List (Dt × List Dt)},MRs K h ag mes es→MRs K h ag (mes.filter fun e=>!seen.contains e.born) (left (mes.map (·.born)) seen es)
 | [],[],_=>by simp [Vc.left,MRs]
 | e::mes,p::es,hm=>by
  simp only [MRs] at hm
  have ih:=MRs.left (seen:=seen) hm.2.2
  simp only [List.map_cons,Vc.left,List.filter_cons]
  cases seen.contains e.born
  ·simp only [Bool.not_false,if_true,cond_false,MRs]; exact ⟨hm.1,hm.2.1,ih⟩
  ·simpa using ih
 | [],_::_,hm=>by simp [MRs] at hm
 | _::_,[],hm=>by simp [MRs] at hm
theorem MRs.get {K:Nat→Prop} {h:Array Obj} {ag:Bool}:∀ {mes:List MapEntry} {es:List (Dt × List Dt)} {p:Nat} {x:Dt × List Dt},MRs K h ag mes es→es[p]?=some x→∃ e,mes[p]?=some e∧KR K h e.key x.1∧mval K h ag e.val x.2
 | [],[],p,x,_,hx=>by simp at hx
 | e::mes,y::es,0,x,hm,hx=>by
  simp only [MRs] at hm
  simp at hx
  subst hx
  refine ⟨e,rfl,hm.1,?_⟩
  cases ag <;> exact hm.2.1
 | e::mes,y::es,p+1,x,hm,hx=>by
  simp only [MRs] at hm
  simpa using MRs.get hm.2.2 (by simpa using hx)
 | [],_::_,_,_,hm,_=>by simp [MRs] at hm
 | _::_,[],_,_,hm,_=>by simp [MRs] at hm
def keyVa:Dt→Va
 | .a ds=>.agg (ds.map .p)
 | .b x=>.p (.b x)
 | .i k x=>.p (.i k x)
 | .s x=>.p (.s x)
 | .l x=>.p (.l x)
 | .r x=>.p (.r x)
theorem KR.va {K:Nat→Prop} {h:Array Obj} {G:List Gh} {v:Value}:∀ {d:Dt},KR K h v d→VR K h G v (keyVa d)
 | .a ds,⟨cs,h1,h2⟩=>by simp only [keyVa,VR]; exact ⟨cs,h1,DRs.vrs h2⟩
 | .b _,H=>by simpa only [keyVa,VR,KR] using H
 | .i _ _,H=>by simpa only [keyVa,VR,KR] using H
 | .s _,H=>by simpa only [keyVa,VR,KR] using H
 | .l _,H=>by simpa only [keyVa,VR,KR] using H
 | .r _,H=>by simpa only [keyVa,VR,KR] using H
attribute [go_sem] keyVa
theorem mval_rowV {K:Nat→Prop} {h:Array Obj} {G:List Gh} {ag:Bool} {v:Value} {row:List Dt} (hv:mval K h ag v row):VR K h G v (rowV ag row):=by
 cases ag with
 | true =>
  obtain ⟨cs,rfl,h2⟩:=hv
  simp only [rowV,cond_true,VR]
  exact ⟨cs,rfl,DRs.vrs h2⟩
 | false =>
  obtain ⟨d,rfl,h2⟩:=hv
  simp only [rowV,cond_false,hdD,List.drop_zero]
  simpa only [VR] using h2
section
variable {K:Nat→Prop} {G:List Gh} {H:List Ob} {w:World}
theorem St.reob (hS:St K G H w) {o:Nat} {g:Gh} {b:Nat} (hg:G[o]?=some g) (hb:g.blk=some b) {x:Ob} (hx:ObR K w.heap G g x):St K G (H.set o x) w :=
 hS.modA hg hb rfl (fun _ _=>rfl) hx
end
theorem run_next_at {P:Program} (w:World) (ty:TypeId) {bq bm cl:Nat} {seen:List Nat} {mes:Array MapEntry} (e4:w.heap[bq]?=some (.mapIter (some bm) cl seen.toArray cl)) (hbm:w.heap[bm]?=some (.map mes cl))
  (hunsup:(!seen.toArray.isEmpty && !mes.isEmpty && mes.all (fun e=>decide (e.born ≥ cl)))=false)
  (hold:(mes.filter fun e=>!seen.toArray.contains e.born).filter (fun e=>decide (e.born < cl))=mes.filter fun e=>!seen.contains e.born)
  (hnew:(mes.filter fun e=>!seen.toArray.contains e.born).filter (fun e=>decide (e.born ≥ cl))=#[]) :
  ((mes.filter fun e=>!seen.contains e.born).size=0∧(Instr.next (.pointer (some ⟨bq,0,none⟩)) false ty).run P w=.ok (.tuple #[.bool false]) w) ∨
  ∃ (j:Nat) (hj:j < (mes.filter fun e=>!seen.contains e.born).size) (w1:World),(w1=w ∨ w1=w.drew) ∧
   (Instr.next (.pointer (some ⟨bq,0,none⟩)) false ty).run P w=.ok (.tuple #[.bool true,(mes.filter fun e=>!seen.contains e.born)[j].key,(mes.filter fun e=>!seen.contains e.born)[j].val])
    { w1 with heap:=w1.heap.setIfInBounds bq (.mapIter (some bm) cl (seen++[(mes.filter fun e=>!seen.contains e.born)[j].born]).toArray cl) }:=by
 have hlt:bq < w.heap.size:=(Array.getElem?_eq_some_iff.1 e4).1
 simp only [Instr.next,getObj,Sem.run_bind,Sem.run,e4,hbm,Result.andThen,hunsup,Bool.false_eq_true,if_false,hold,hnew,Array.append_empty]
 generalize (mes.filter fun e=>!seen.contains e.born)=L
 by_cases h0:L.size=0
 ·left
  have:L=#[]:=Array.eq_empty_of_size_eq_zero h0
  subst this
  refine ⟨rfl,?_⟩
  simp [choose,Sem.run,Question.forced]
 ·right
  have hne:L.isEmpty=false:=by simp [Array.isEmpty,h0]
  simp only [hne,Bool.false_eq_true,if_false,Array.empty_append,Array.size_map]
  have hch:∃ (j:Nat) (w1:World),j < L.size∧(w1=w ∨ w1=w.drew)∧(choose (Question.mapNext L.size)).run P w=.ok j w1:=by
   by_cases hf:L.size≤1
   ·exact ⟨0,w,by omega,.inl rfl,by simp [choose,Sem.run,Question.forced,hf]⟩
   ·exact ⟨_,w.drew,Nat.mod_lt _ (by omega),.inr rfl,by
     simp only [choose,Sem.run,Question.forced,decide_eq_true_eq,hf,if_false,Question.cut]
     rfl⟩
  obtain ⟨j,w1,hj,hal,hrun⟩:=hch
  refine ⟨j,hj,w1,hal,?_⟩
  have hset:(setObj bq (.mapIter (some bm) cl (seen.toArray.push L[j].born) cl)).run P w1=.ok () { w1 with heap:=w1.heap.setIfInBounds bq (.mapIter (some bm) cl (seen.toArray.push L[j].born) cl) }:=by
   have h1:w1.heap[bq]?=some (.mapIter (some bm) cl seen.toArray cl):=by rcases hal with rfl | rfl <;> exact e4
   simp [setObj,Sem.run,h1]
  simp only [hrun,Array.getElem?_map,Array.getElem?_eq_getElem hj,Option.map_some,Sem.run_bind,hset,Result.andThen]
  simp
section
variable {P:Program} {kl:List Bool} {n:Nat} {B:Bs} {ops:Array Oper} {K:Env→List Ob→Prop} {E:Env} {H:List Ob}
theorem Rg.range {o:Oper} {l:List Oper} {t:TypeId} {x:Operand} {i:Nat} {ag:Bool} {es:List (Dt × List Dt)} {kt et:TypeId} (ho:Is o.op (.range t x)) (hg:Is o.guard none) (hd:dstOk n o.dst) (hk:opOk true E x) (hx:Is (opnd E x) (.mp i)) (ht:Is (kindP P t) (.map kt et)) (hi:Is (obAt H i) (.mp ag es))
  (cont:∀ (bs:List Nat) (cl:Nat),es.length=bs.length→bs.Nodup→(∀ b ∈ bs,b < cl)→RgEnd P kl n B ops K (run1 P kl n ops.toList l ⟨eput E o.dst (.ptr H.length 0),H.set i (.mpb ag es bs cl)++[.it i cl []],True⟩)):Rg P kl n B ops (o::l) E H K:=by
 unfold Is at *
 refine Rg.any hg hd (I:=fun v H'=>v=.ptr H.length 0∧∃ bs cl,es.length=bs.length∧bs.Nodup∧(∀ b ∈ bs,b < cl)∧H'=H.set i (.mpb ag es bs cl)++[.it i cl []]) ?_ ?_
 rotate_left
 ·rintro v H' ⟨rfl,bs,cl,h1,h2,h3,rfl⟩
  exact cont bs cl h1 h2 h3
 intro a w hR
 obtain ⟨Kk,G,hX,hS,hE,hdf,hn,hkp⟩:=hR
 have hvx:=opnd_ok hE rfl x hk
 rw [hx] at hvx
 simp only [VR] at hvx
 obtain ⟨g,b,hgi,hgb,ha⟩:=hvx
 have hiH:=obAt_some hi (by simp)
 obtain ⟨hlim,b',mes,clock,hb',hbm,hmr,hst⟩:=hS.ob i g _ hgi hiH
 obtain rfl:b'=b:=by rw [hgb] at hb'; exact (Option.some.inj hb').symm
 obtain ⟨ti,ht',hk'⟩:=kindP_some ht (by simp)
 have hu:=tk_map ht' hk'
 have hst':=(MapKept.stamped_iff mes clock).1 hst
 have hil:i < G.length:=(List.getElem?_eq_some_iff.1 hgi).1
 have hS1:=hS.reob hgi hgb (x:=.mpb ag es (mes.toList.map (·.born)) clock) ⟨hlim,b',mes,hgb,hbm,hmr,hst,rfl⟩
 have hS2:=hS1.push (o:=.mapIter (some b') clock #[] clock) (x:=.it i clock []) (sv:=undef) ⟨w.heap.size,b',g,rfl,by rw [List.getElem?_append_left hil]; exact hgi,hgb,heap_alloc_new w _⟩
 have hM:=Mn.alloc hS.kb (.mapIter (some b') clock #[] clock)
 have hG:∀ (o:Nat) (g:Gh),G[o]?=some g→(G++[⟨some w.heap.size,undef,[]⟩])[o]?=some g:=fun o g hg=>Mg.push G _ o g rfl hg
 refine ⟨.pointer (some ⟨w.heap.size,0,none⟩),w.alloc (.mapIter (some b') clock #[] clock),.ptr H.length 0,H.set i (.mpb ag es (mes.toList.map (·.born)) clock)++[.it i clock []],?_,⟨rfl,_,clock,by rw [List.length_map]; exact hmr.length.symm,hst'.2.1,by simpa using hst'.1,rfl⟩,?_⟩
 ·have hrun:(Instr.range t (a.eval x)).run P w=.ok (.pointer (some ⟨w.heap.size,0,none⟩)) (w.alloc (.mapIter (some b') clock #[] clock)):=by
   rw [ha]
   simp [Instr.range,run_underlying hu,MapKept.run_getObj_map hbm,Result.andThen]
  obtain ⟨dst,op,ty,pos,af,gd⟩:=o
  cases ho
  exact val_run hrun
 ·refine ⟨Kk,G++[⟨some w.heap.size,undef,[]⟩],hX.trans (Ext.push _ _ undef),hS2,fun m=>VR.grow hM hG _ _ (hE m),hdf,hn,fun q hq=>?_,?_⟩
  ·obtain ⟨y,hy,hky⟩:=hkp q hq
   have hql:=(List.getElem?_eq_some_iff.1 hy).1
   by_cases e:q=i
   ·subst e
    exact ⟨_,by rw [List.getElem?_append_left (by simpa using hql)]; exact List.getElem?_set_self hql,rfl⟩
   ·exact ⟨y,by rw [List.getElem?_append_left (by simpa using hql),List.getElem?_set_ne (Ne.symm e)]; exact hy,hky⟩
  ·simp only [VR]
   refine ⟨⟨some w.heap.size,undef,[]⟩,w.heap.size,?_,rfl,rfl⟩
   rw [← hS.len,List.getElem?_append_right (Nat.le_refl _)]
   simp
theorem Rg.next {o:Oper} {l:List Oper} {x:Operand} {q i cl:Nat} {ag:Bool} {es:List (Dt × List Dt)} {bs seen:List Nat} (ho:Is o.op (.next x false)) (hg:Is o.guard none) (hd:dstOk n o.dst) (hk:opOk true E x) (hx:Is (opnd E x) (.ptr q 0)) (hq:Is (obAt H q) (.it i cl seen)) (hi:Is (obAt H i) (.mpb ag es bs cl))
  (hkq:kpf kl q=false) (hb1:es.length=bs.length) (hb2:bs.Nodup) (hb3:∀ b ∈ bs,b < cl)
  (he:(left bs seen bs).length=0→RgEnd P kl n B ops K (run1 P kl n ops.toList l ⟨eput E o.dst (.tup [.p (.b false)]),H,True⟩))
  (hs:∀ (j p st:Nat),NextOk bs seen j p st→RgEnd P kl n B ops K (run1 P kl n ops.toList l ⟨eput E o.dst (.tup [.p (.b true),.top,.top]),H.set q (.it i cl (seen++[st])),True⟩)):Rg P kl n B ops (o::l) E H K:=by
 unfold Is at *
 refine Rg.any hg hd (I:=fun v H'=>((left bs seen bs).length=0∧v=.tup [.p (.b false)]∧H'=H) ∨ ∃ j p st,NextOk bs seen j p st∧v=.tup [.p (.b true),.top,.top]∧H'=H.set q (.it i cl (seen++[st]))) ?_ ?_
 rotate_left
 ·rintro v H' (⟨h1,rfl,rfl⟩ | ⟨j,p,st,h1,rfl,rfl⟩)
  ·exact he h1
  ·exact hs j p st h1
 intro a w hR
 obtain ⟨Kk,G,hX,hS,hE,hdf,hn,hkp⟩:=hR
 have hvx:=opnd_ok hE rfl x hk
 rw [hx] at hvx
 simp only [VR] at hvx
 obtain ⟨gq,bq,hgq,hbq,ha⟩:=hvx
 have hqH:=obAt_some hq (by simp)
 have hiH:=obAt_some hi (by simp)
 obtain ⟨bq',bm,gm,e1,e2,e3,e4⟩:=hS.ob q gq _ hgq hqH
 obtain rfl:bq'=bq:=by rw [hbq] at e1; exact (Option.some.inj e1).symm
 obtain ⟨hlim,b',mes,hb',hbm,hmr,hst,hborn⟩:=hS.ob i gm _ e2 hiH
 obtain rfl:b'=bm:=by rw [e3] at hb'; exact (Option.some.inj hb').symm
 subst hborn
 have hlen:es.length=mes.toList.length:=by simpa using hb1
 have hunsup:(!seen.toArray.isEmpty && !mes.isEmpty && mes.all (fun e=>decide (e.born ≥ cl)))=false:=by
  cases hme:mes.isEmpty with
  | true=>simp
  | false =>
   have:mes.all (fun e=>decide (e.born ≥ cl))=false:=by
    rw [Array.all_eq_false']
    have hne:mes.toList ≠ []:=by
     intro e0
     have:mes=#[]:=Array.toList_eq_nil_iff.1 e0
     subst this
     simp at hme
    obtain ⟨e0,r0,hcons⟩:=List.exists_cons_of_ne_nil hne
    refine ⟨e0,by rw [← Array.mem_toList_iff,hcons]; simp,?_⟩
    have:=hb3 e0.born (by simp [hcons])
    simp; omega
   simp [this]
 have hseen:∀ y:Nat,seen.toArray.contains y=seen.contains y:=by intro y; simp
 have hold:(mes.filter fun e=>!seen.toArray.contains e.born).filter (fun e=>decide (e.born < cl))=mes.filter fun e=>!seen.contains e.born:=by
  apply Array.toList_inj.1
  simp only [Array.toList_filter,hseen]
  rw [List.filter_eq_self]
  intro e he
  have:=(List.mem_filter.1 he).1
  simpa using hb3 e.born (by simp; exact ⟨e,by simpa using this,rfl⟩)
 have hnew:(mes.filter fun e=>!seen.toArray.contains e.born).filter (fun e=>decide (e.born ≥ cl))=#[]:=by
  apply Array.toList_inj.1
  simp only [Array.toList_filter,hseen]
  rw [List.filter_eq_nil_iff.2]
  intro e he
  have:=(List.mem_filter.1 he).1
  have:=hb3 e.born (by simp; exact ⟨e,by simpa using this,rfl⟩)
  simp; omega
 have hlf:(left (mes.toList.map (·.born)) seen (mes.toList.map (·.born))).length=(mes.filter fun e=>!seen.contains e.born).size:=by
  rw [left_length (m:=mes.toList) (by simp) (by simp),left_filter,← Array.toList_filter,Array.length_toList]
 have hrr:=run_next_at (P:=P) w o.type e4 hbm hunsup hold hnew
 have e0:∀ {c:Value} {w':World},(Instr.next (a.eval x) false o.type).run P w=.ok c w'→(execOp a.eval o).run P w=.ok (.value c) w':=by
  intro c w' hr
  obtain ⟨dst,op,ty,pos,af,gd⟩:=o
  cases ho
  exact val_run hr
 rw [← ha] at hrr
 rcases hrr with ⟨h0,hr⟩ | ⟨j,hj,w1,hw1,hr⟩
 ·refine ⟨_,_,.tup [.p (.b false)],H,e0 hr,.inl ⟨by rw [hlf]; exact h0,rfl,rfl⟩,Kk,G,hX,hS,hE,hdf,hn,hkp,?_⟩
  simp only [VR,VRs,DR]
  exact ⟨[.bool false],rfl,_,_,rfl,rfl,rfl⟩
 ·obtain ⟨p,st,hok,hst'⟩:=nextOk hb2 (by rw [hlf]; exact hj)
  have hstb:st=(mes.filter fun e=>!seen.contains e.born)[j].born:=by
   rw [left_map (fun e:MapEntry=>e.born),left_filter,← Array.toList_filter,List.getElem?_map,Array.getElem?_toList,Array.getElem?_eq_getElem hj] at hst'
   simpa using hst'.symm
  rw [← hstb] at hr
  have hqb:bq' < w.heap.size:=(Array.getElem?_eq_some_iff.1 e4).1
  have hsz:w1.heap.size=w.heap.size:=by rcases hw1 with rfl | rfl <;> rfl
  have hhp:w1.heap=w.heap:=by rcases hw1 with rfl | rfl <;> rfl
  have hfr:∀ y,y ≠ bq'→({ w1 with heap:=w1.heap.setIfInBounds bq' (.mapIter (some b') cl (seen++[st]).toArray cl) }:World).heap[y]?=w.heap[y]?:=fun y hy=>by simp [Ne.symm hy,hhp]
  have hqi:q ≠ i:=fun e=>by subst e; rw [hqH] at hiH; cases hiH
  have hMn:Mn Kk Kk w.heap ({ w1 with heap:=w1.heap.setIfInBounds bq' (.mapIter (some b') cl (seen++[st]).toArray cl) }:World).heap:=⟨fun _ h=>h,fun y hy=>hfr y fun e=>(hS.gb q gq _ hgq hbq).2 (e ▸ hy)⟩
  have hS1:=hS.modA (x:=.it i cl (seen++[st])) hgq hbq (w':={ w1 with heap:=w1.heap.setIfInBounds bq' (.mapIter (some b') cl (seen++[st]).toArray cl) }) (by simp [hsz]) hfr ⟨bq',b',gm,hbq,e2,e3,by simp [hsz,hqb]⟩
  refine ⟨_,_,.tup [.p (.b true),.top,.top],H.set q (.it i cl (seen++[st])),e0 hr,.inr ⟨j,p,st,hok,rfl,rfl⟩,Kk,G,hX.trans (Ext.modA _ hgq hbq ?_ ?_ ?_ (by simp [hsz]) hfr),hS1,fun m=>VR.grow hMn (fun _ _ h=>h) _ _ (hE m),hdf,hn,fun y hy=>?_,?_⟩
  ·rcases hw1 with rfl | rfl <;> rfl
  ·rcases hw1 with rfl | rfl <;> rfl
  ·rcases hw1 with rfl | rfl <;> rfl
  ·have hyq:y ≠ q:=fun e=>by subst e; rw [show kpf kl y=true from hy] at hkq; cases hkq
   obtain ⟨z,hz,hkz⟩:=hkp y hy
   exact ⟨z,by rw [List.getElem?_set_ne (Ne.symm hyq)]; exact hz,hkz⟩
  ·simp only [VR,VRs,DR]
   exact ⟨[.bool true,_,_],rfl,_,_,rfl,rfl,_,_,rfl,trivial,_,_,rfl,trivial,rfl⟩
theorem Rg.entry {o:Oper} {l:List Oper} {x:Operand} {q i cl p st:Nat} {ag:Bool} {es:List (Dt × List Dt)} {bs seen:List Nat} {d:Dt} {row:List Dt} (ho:Is o.op (.entry x)) (hg:Is o.guard none) (hd:dstOk n o.dst) (hk:opOk true E x) (hx:Is (opnd E x) (.ptr q 0)) (hq:Is (obAt H q) (.it i cl (seen++[st]))) (hi:Is (obAt H i) (.mpb ag es bs cl))
  (hb2:bs.Nodup) (hp:bs[p]?=some st) (he:es[p]?=some (d,row))
  (cont:RgEnd P kl n B ops K (run1 P kl n ops.toList l ⟨eput E o.dst (.tup [keyVa d,rowV ag row]),H,True⟩)):Rg P kl n B ops (o::l) E H K:=by
 unfold Is at *
 refine Rg.any hg hd (I:=fun v H'=>v=.tup [keyVa d,rowV ag row]∧H'=H) ?_ (by rintro v H' ⟨rfl,rfl⟩; exact cont)
 intro a w hR
 obtain ⟨Kk,G,hX,hS,hE,hdf,hn,hkp⟩:=hR
 have hvx:=opnd_ok hE rfl x hk
 rw [hx] at hvx
 simp only [VR] at hvx
 obtain ⟨gq,bq,hgq,hbq,ha⟩:=hvx
 have hqH:=obAt_some hq (by simp)
 have hiH:=obAt_some hi (by simp)
 obtain ⟨bq',bm,gm,e1,e2,e3,e4⟩:=hS.ob q gq _ hgq hqH
 obtain rfl:bq'=bq:=by rw [hbq] at e1; exact (Option.some.inj e1).symm
 obtain ⟨hlim,b',mes,hb',hbm,hmr,hst,hborn⟩:=hS.ob i gm _ e2 hiH
 obtain rfl:b'=bm:=by rw [e3] at hb'; exact (Option.some.inj hb').symm
 obtain ⟨e,he1,he2,he3⟩:=hmr.get he
 have heb:e.born=st:=by
  rw [← hborn,List.getElem?_map,he1] at hp
  simpa using hp
 have hf:mes.find? (·.born == st)=some e:=by
  rw [← Array.find?_toList,← heb]
  exact find_born e mes.toList (by rw [hborn]; exact hb2) (List.mem_of_getElem? he1)
 have hr:(Instr.entry (a.eval x)).run P w=.ok (.tuple #[e.key,e.val]) w:=by
  rw [ha]
  have:(seen++[st]).toArray.back?=some st:=by simp
  simp only [Instr.entry,getObj,Sem.run_bind,Sem.run,e4,hbm,Result.andThen,this,bne_self_eq_false,Bool.false_eq_true,if_false,hf]
  rfl
 refine ⟨.tuple #[e.key,e.val],w,_,H,?_,⟨rfl,rfl⟩,Kk,G,hX,hS,hE,hdf,hn,hkp,?_⟩
 ·obtain ⟨dst,op,ty,pos,af,gd⟩:=o
  cases ho
  exact val_run hr
 ·simp only [VR,VRs]
  exact ⟨[e.key,e.val],rfl,_,_,rfl,he2.va,_,_,rfl,mval_rowV he3,rfl⟩
end
section
variable {P:Program} {kl:List Bool} {n:Nat} {B:Bs} {Q:Qt} {E:Env} {H:List Ob}
theorem Wp.endM {c:Code} (i q:Nat) {ag:Bool} {es:List (Dt × List Dt)} {bs seen:List Nat} {cl:Nat} (hi:Is (obAt H i) (.mpb ag es bs cl)) (hq:Is (obAt H q) (.it i cl seen)) (hk:kpf kl q=false)
  (hc:Wp P kl n B c Q E ((H.set i (.mp ag es)).set q .gone)):Wp P kl n B c Q E H:=by
 unfold Is at *
 intro hB a w hR
 obtain ⟨K,G,r1,hS,r3,r4,r5,r6⟩:=hR
 have hiH:=obAt_some hi (by simp)
 have hqH:=obAt_some hq (by simp)
 obtain ⟨gi,hgi,hob⟩:=hS.ghost hiH
 obtain ⟨hlim,b,mes,e1,e2,e3,e4,e5⟩:=hob
 obtain ⟨gq,hgq,hobq⟩:=hS.ghost hqH
 obtain ⟨bq,bm,gm,q1,q2⟩:=hobq
 have s1:=hS.reob hgi e1 (x:=.mp ag es) ⟨hlim,b,mes,cl,e1,e2,e3,e4⟩
 have s2:=s1.reob hgq q1 (x:=.gone) trivial
 refine hc hB a w ⟨K,G,r1,s2,r3,r4,r5,fun y hy=>?_⟩
 have hyq:y ≠ q:=fun e=>by subst e; rw [show kpf kl y=true from hy] at hk; cases hk
 obtain ⟨z,hz,hkz⟩:=r6 y hy
 by_cases e:y=i
 ·subst e
  exact ⟨_,by rw [List.getElem?_set_ne (Ne.symm hyq)]; exact List.getElem?_set_self (List.getElem?_eq_some_iff.1 hz).1,rfl⟩
 ·exact ⟨z,by rw [List.getElem?_set_ne (Ne.symm hyq),List.getElem?_set_ne (Ne.symm e)]; exact hz,hkz⟩
end
section
variable {α β S:Type}
theorem forM_next {z:β} {f:α→S→(S→Option β)→(S→Option β)→Option β} {k:S→Option β} {s':S} {bs seen:List Nat} {l:List α} {j p st:Nat} (hok:NextOk bs seen j p st) (hb:l.length=bs.length)
  (h:forM f ((left bs seen l).eraseIdx j).length ((left bs seen l).eraseIdx j) s' k=some z):(left bs (seen++[st]) l).length < (left bs seen l).length∧forM f (left bs (seen++[st]) l).length (left bs (seen++[st]) l) s' k=some z:=by
 obtain ⟨h1,h2,_⟩:=hok.er l hb
 rw [h2]
 exact ⟨by rw [List.length_eraseIdx,if_pos h1]; omega,h⟩
theorem encM_get {Kt V:Type} {kd:Kt→Dt} {e:V→List Dt} {l:List (Kt × V)} {p:Nat} {x:Kt × V} (h:l[p]?=some x):(encM kd e l)[p]?=some (kd x.1,e x.2):=by simp [encM,h]
theorem encM_bs {Kt V:Type} {kd:Kt→Dt} {e:V→List Dt} {l:List (Kt × V)} {bs:List Nat} (h:(encM kd e l).length=bs.length):l.length=bs.length:=by rw [← h,encM_len]
end
end Go.Vc
/- Two more operations as steps: whether a slice is nil (where nobody knows); a cut of a growing slice that is cleared. -/
set_option linter.unusedSectionVars false
namespace Go.Vc
variable [Tabs]
section
variable {P:Program} {kl:List Bool} {n:Nat} {B:Bs} {ops:Array Oper} {K:Env→List Ob→Prop} {E:Env} {H:List Ob}
theorem Rg.isnil {o:Oper} {l:List Oper} {t u:TypeId} {x:Operand} {rows:List (List Dt)} {e:TypeId} {esz eb:Nat} {ez:List Value} (ho:Is o.op (.binOp .eql t x (.const (.slice none 0 0)) u)) (hg:Is o.guard none) (hd:dstOk n o.dst) (hk:opOk true E x) (hx:Is (opnd E x) (.p (.l rows))) (ht:Is (kindP P t) (.slice e esz eb ez))
  (cont:∀ b:Bool,(b=true→rows=[])→RgEnd P kl n B ops K (run1 P kl n ops.toList l ⟨eput E o.dst (.p (.b b)),H,True⟩)):Rg P kl n B ops (o::l) E H K:=by
 unfold Is at *
 refine Rg.any hg hd (I:=fun v H'=>H'=H∧∃ b:Bool,(b=true→rows=[])∧v=.p (.b b)) ?_ (by rintro v H' ⟨rfl,b,h1,rfl⟩; exact cont b h1)
 intro a w hR
 obtain ⟨Kk,G,hX,hS,hE,hdf,hn,hkp⟩:=hR
 have hvx:=opnd_ok hE rfl x hk
 rw [hx] at hvx
 simp only [VR,DR] at hvx
 obtain ⟨ti,ht',hk'⟩:=kindP_some ht (by simp)
 obtain ⟨hu,_⟩:=tk_slice ht' hk'
 have key:∃ ad m cap,a.eval x=.slice ad m cap∧(ad.isNone=true→rows=[]):=by
  rcases hvx with ⟨⟨ad,h1⟩,h2⟩ | ⟨b,off,cap,cs,T,fr,sz,vs,h1,_⟩
  ·exact ⟨ad,0,0,h1,fun _=>h2⟩
  ·exact ⟨_,_,_,h1,fun h=>by simp at h⟩
 obtain ⟨ad,m,cap,hax,hnil⟩:=key
 refine ⟨.bool ad.isNone,w,_,H,?_,⟨rfl,ad.isNone,hnil,rfl⟩,Kk,G,hX,hS,hE,hdf,hn,hkp,by simp only [VR,DR]⟩
 have hr:(binOp .eql t (.slice ad m cap) (.slice none 0 0)).run P w=.ok (.bool ad.isNone) w:=Lib.run_eql_slice_nil w t e ad m cap 0 0 hu
 obtain ⟨dst,op,ty,pos,af,gd⟩:=o
 cases ho
 have hgd:=eqGuard_plain (P:=P) (w:=w) .eql t x (.const (.slice none 0 0)) (.slice ad m cap) (.slice none 0 0) (by simp) (by simp)
 have:(do eqGuard .eql t x (.const (.slice none 0 0)) (a.eval x) (a.eval (.const (.slice none 0 0))); binOp .eql t (a.eval x) (a.eval (.const (.slice none 0 0))):Sem Value).run P w=.ok (.bool ad.isNone) w:=by
  rw [hax]
  show (do eqGuard .eql t x (.const (.slice none 0 0)) (.slice ad m cap) (.slice none 0 0); binOp .eql t (.slice ad m cap) (.slice none 0 0):Sem Value).run P w=_
  simp only [Sem.run_bind,hgd,Result.andThen_ok,hr]
 exact val_run this
theorem Rg.clear {o:Oper} {l:List Oper} {c:Call} {t:TypeId} {x:Operand} {i sz a m:Nat} {T:TypeId} {rows:List (List Dt)} {e:TypeId} {eb:Nat} {ez:List Value} {z:List Dt} (ho:Is o.op (.call c)) (hc:Is c.callee (.builtin .clear)) (hca:Is c.args.toList [x]) (hct:Is c.argTypes.toList [t]) (hg:Is o.guard none) (hd:dstOk n o.dst) (hk:opOk true E x)
  (hx:Is (opnd E x) (.vw i sz a m)) (ht:Is (kindP P t) (.slice e sz eb ez)) {fx:Bool} (hi:Is (bufAt H i) (some (T,sz,rows,fx))) (hz:Is (dts (ez.map cv)) (some z)) (hzk:zerosOk ez) (hzl:ez.length=sz) (hs0:0 < sz)
  (cont:RgEnd P kl n B ops K (run1 P kl n ops.toList l ⟨eput E o.dst .top,H.set i (mkB fx T sz (rows.take a++List.replicate m z++rows.drop (a+m))),True⟩)):Rg P kl n B ops (o::l) E H K:=by
 unfold Is at *
 refine Rg.any hg hd (I:=fun v H'=>v=.top∧H'=H.set i (mkB fx T sz (rows.take a++List.replicate m z++rows.drop (a+m)))) ?_ (by rintro v H' ⟨rfl,rfl⟩; exact cont)
 intro ac w hR
 obtain ⟨Kk,G,hX,hS,hE,hdf,hn,hkp⟩:=hR
 have hvx:=opnd_ok hE rfl x hk
 rw [hx] at hvx
 simp only [VR] at hvx
 obtain ⟨g,ad,N,cap,hgi,hsv,hle,ad',cap',hax,hmc,hcc,hpos⟩:=hvx
 obtain ⟨ti,ht',hk'⟩:=kindP_some ht (by simp)
 obtain ⟨hu,⟨inf,hi1,hi2,hi3⟩,hez⟩:=tk_slice ht' hk'
 have hiH:=bufAt_some hi
 obtain ⟨hlim,xs,hxs,hh⟩:=hS.bufOb hi hgi
 have hzi:∃ zv,inf.zero=some zv∧zv.cells.toList=ez:=by
  unfold zeroP at hez
  rw [hi1] at hez
  simp at hez
  exact hez
 obtain ⟨zv,hzv,hzc⟩:=hzi
 have hrl:rows.length=N:=by
  rcases hh with ⟨⟨a0,h1⟩,rfl,_⟩ | ⟨b,cp,cur,fr,h1,_⟩
  ·rw [hsv] at h1; cases h1; rfl
  ·rw [hsv] at h1; cases h1; rfl
 have fin:∀ (w':World),(Builtin.clear_ #[t] o.type #[ac.eval x]).run P w=.ok (.tuple #[]) w'→RelV (cx P kl n B) E (H.set i (mkB fx T sz (rows.take a++List.replicate m z++rows.drop (a+m)))) (.tuple #[]) .top ac w'→∃ c' w' v H',(execOp ac.eval o).run P w=.ok (.value c') w'∧(v=.top∧H'=H.set i (mkB fx T sz (rows.take a++List.replicate m z++rows.drop (a+m))))∧RelV (cx P kl n B) E H' c' v ac w':=by
  intro w' hr hRV
  refine ⟨_,w',_,_,?_,⟨rfl,rfl⟩,hRV⟩
  obtain ⟨callee,args,argTypes⟩:=c
  obtain ⟨dst,op,ty,pos,af,gd⟩:=o
  cases ho
  simp only at hc hca hct hr
  subst hc
  have ha:args=#[x]:=by cases args; simp_all
  have hat:argTypes=#[t]:=by cases argTypes; simp_all
  subst ha; subst hat
  simp [execOp,resolve,invoke,builtin,hr]
 rcases Nat.eq_zero_or_pos m with rfl | hm
 ·have hsame:rows.take a++List.replicate 0 z++rows.drop (a+0)=rows:=by simp
  rw [hsame] at fin ⊢
  have hset:H.set i (mkB fx T sz rows)=H:=by
   apply List.ext_getElem?
   intro j
   by_cases e:j=i
   ·subst e; rw [List.getElem?_set_self (List.getElem?_eq_some_iff.1 hiH).1,hiH]
   ·rw [List.getElem?_set_ne (Ne.symm e)]
  rw [hset] at fin ⊢
  refine fin w ?_ ⟨Kk,G,hX,hS,hE,hdf,hn,hkp,by simp only [VR]⟩
  rw [hax]
  cases ad' <;> simp [Builtin.clear_,run_underlying hu]
 ·obtain ⟨b,hgb,had,had'⟩:=hpos (by omega)
  rcases hh with ⟨_,_,h0⟩ | ⟨b',cp,cur,fr,h1,h2,h3,h4,h5,h6,h7,h8⟩
  ·rw [hgb] at h0; cases h0
  obtain rfl:b'=b:=by rw [hgb] at h2; exact (Option.some.inj h2).symm
  have hzsz:zv.cells.size=sz:=by rw [← hzl,← hzc]; simp
  have hzcells:(Builtin.zeroCells zv.cells m).toList=(List.replicate m ez).flatten:=by
   show (madeCells zv.cells (m * zv.cells.size)).toList=_
   rw [hzsz,made_flat (by rw [hzc]; exact hzl) hs0,hzc]
  have hzd:DRs Kk w.heap ez z:=dts_ok (zeros_ok (G:=G) hzk) hz
  have hzl':z.length=sz:=by have:=hzd.length; omega
  have hnews:=DRss.replicate hzd m
  rw [hzl'] at hnews
  have hnl:((List.replicate m ez).flatten).length=m * sz:=by have:=hnews.length; simpa using this
  have hA:a * sz+m * sz≤rows.length * sz:=by rw [← Nat.add_mul]; exact Nat.mul_le_mul_right _ (by omega)
  have hC:rows.length * sz≤cur.size:=by rw [h7]; exact Nat.mul_le_mul_right _ h5
  have hst:=run_storeCells_free (P:=P) b' (a * sz) T fr (List.replicate m ez).flatten 0 cur w h3 h4 (by omega) hnews.ones
  simp only [Nat.add_zero] at hst
  have hxl:xs=cur.toList.take (rows.length * sz):=h8.symm
  have hcl:(setRv cur.toList (a * sz) (List.replicate m ez).flatten).length=cur.size:=by rw [setRv_length _ _ _ (by rw [hnl]; simpa using (by omega:a * sz+m * sz≤cur.size))]; simp
  have hlen':(rows.take a++List.replicate m z++rows.drop (a+m)).length=rows.length:=by simp; omega
  refine fin (w.setRow b' (setRv cur.toList (a * sz) (List.replicate m ez).flatten).toArray) ?_ ?_
  ·rw [hax,had']
   have hm0:m ≠ 0:=by omega
   have hzr:(zeroValue e).run P w=.ok zv w:=by simp [zeroValue,typeInfo,hi1,hzv]
   obtain ⟨m',rfl⟩:∃ m',m=m'+1:=⟨m - 1,by omega⟩
   simp [Builtin.clear_,run_underlying hu,hzr,hzcells,hst]
  ·have hfr2:∀ y,y ≠ b'→(w.setRow b' (setRv cur.toList (a * sz) (List.replicate m ez).flatten).toArray).heap[y]?=w.heap[y]?:=fun y hy=>setRow_other w b' y _ hy
   have hMn:Mn Kk Kk w.heap (w.setRow b' (setRv cur.toList (a * sz) (List.replicate m ez).flatten).toArray).heap:=⟨fun _ h=>h,fun y hy=>hfr2 y fun e=>(hS.gb i g b' hgi h2).2 (e ▸ hy)⟩
   refine ⟨Kk,G,hX.trans (Ext.modA _ hgi h2 rfl rfl rfl (setRow_size _ _ _) hfr2),hS.modA hgi h2 (setRow_size _ _ _) hfr2 (mkB_buf ▸ ⟨by rw [hlen']; exact hlim,xs.take (a * sz)++(List.replicate m ez).flatten++xs.drop ((a+m) * sz),?_,.inr ⟨b',cp,_,fr,by rw [hlen']; exact h1,h2,setRow_heap w b' cur _ T fr h3,?_,by rw [hlen']; exact h5,h6,?_,?_⟩⟩),fun q=>VR.grow hMn (fun _ _ h=>h) _ _ (hE q),hdf,hn,fun y hy=>?_,by simp only [VR]⟩
   ·exact DRss.mono hMn _ _ _ (((DRss.take hxs a).append hnews).append (DRss_drop hxs))
   ·simp only [List.size_toArray,hcl]; exact h4
   ·simp only [List.size_toArray,hcl]; exact h7
   ·rw [hlen',setRv_eq _ _ _ (by rw [hnl]; simpa using (by omega:a * sz+m * sz≤cur.size)),hnl,hxl]
    have e1:((cur.toList.take (a * sz)++(List.replicate m ez).flatten)).length=a * sz+m * sz:=by rw [List.length_append,hnl,List.length_take]; simp; omega
    show (cur.toList.take (a * sz)++(List.replicate m ez).flatten++cur.toList.drop (a * sz+m * sz)).take (rows.length * sz)=_
    rw [List.take_append,List.take_of_length_le (by omega),e1,List.take_take,Nat.min_eq_left (by omega),Nat.add_mul,List.drop_take]
   ·obtain ⟨q,hq,hkq⟩:=hkp y hy
    by_cases hyi:y=i
    ·subst hyi
     rw [hiH] at hq; cases hq
     exact ⟨_,List.getElem?_set_self (List.getElem?_eq_some_iff.1 hiH).1,by cases fx <;> first | rfl | exact hkq⟩
    ·exact ⟨q,by rw [List.getElem?_set_ne (Ne.symm hyi)]; exact hq,hkq⟩
end
def sortS (l:List (List UInt8)):List (List UInt8):=l.mergeSort fun x y=>decide (x≤y)
theorem sortS_length (l:List (List UInt8)):(sortS l).length=l.length:=by unfold sortS; simp
section
variable {P:Program} {kl:List Bool} {n:Nat} {B:Bs} {Q:Qt} {E:Env} {H:List Ob}
theorem Wp.toView {c:Code} (k o:Nat) {T:TypeId} {sz:Nat} {rows:List (List Dt)} (hk:Is (eget E k) (.buf o)) {fx:Bool} (ho:Is (bufAt H o) (some (T,sz,rows,fx))) (hc:Wp P kl n B c Q ((k,.vw o sz 0 rows.length)::E) H):Wp P kl n B c Q E H:=by
 unfold Is at *
 intro hB a w hR
 obtain ⟨K,G,r1,hS,r3,r4,r5,r6⟩:=hR
 refine hc hB a w ⟨K,G,r1,hS,fun m=>?_,r4,r5,r6⟩
 simp only [eget]
 split
 ·rename_i e
  subst e
  have hv:=r3 k
  rw [hk] at hv
  simp only [VR] at hv ⊢
  obtain ⟨g,hg,hcv,a0,n0,cap0,hsv⟩:=hv
  obtain ⟨hlim,xs,hxs,hh⟩:=hS.bufOb ho hg
  rw [hcv]
  rcases hh with ⟨⟨a1,h1⟩,rfl,h3⟩ | ⟨b,cap,cur,fr,h1,h2,h3,h4,h5,h6,h7,h8⟩
  ·exact ⟨g,a1,0,0,hg,h1,by simp,a1,0,h1,by simp,by simp,by simp⟩
  ·exact ⟨g,_,_,cap,hg,h1,by simp,_,cap,h1,h5,by simp,fun _=>⟨b,h2,rfl,by simp⟩⟩
 ·exact r3 m
end
section
variable {P:Program} {kl:List Bool} {n:Nat} {B:Bs} {Q:Qt} {E:Env} {H:List Ob}
theorem Wp.reob {c:Code} (o:Nat) {x:Ob} (hk:kpf kl o=false) (hx:∀ K G (w:World) g,St K G H w→G[o]?=some g→ObR K w.heap G g x) (ho:o < H.length) (hc:Wp P kl n B c Q E (H.set o x)):Wp P kl n B c Q E H:=by
 intro hB a w hR
 obtain ⟨K,G,r1,hS,r3,r4,r5,r6⟩:=hR
 have hol:o < G.length:=by rw [hS.len]; exact ho
 have hS':St K G (H.set o x) w:=by
  refine ⟨by simp [hS.len],hS.kb,hS.gbo,hS.ijo,fun i g y hg hy=>?_,hS.tb⟩
  by_cases e:i=o
  ·subst e
   rw [List.getElem?_set_self ho] at hy
   cases hy
   exact hx K G w g hS hg
  ·rw [List.getElem?_set_ne (Ne.symm e)] at hy
   exact hS.ob i g y hg hy
 refine hc hB a w ⟨K,G,r1,hS',r3,r4,r5,fun y hy=>?_⟩
 have hyo:y ≠ o:=fun e=>by subst e; rw [show kpf kl y=true from hy] at hk; cases hk
 obtain ⟨z,hz,hkz⟩:=r6 y hy
 exact ⟨z,by rw [List.getElem?_set_ne (Ne.symm hyo)]; exact hz,hkz⟩
theorem Wp.toFix {c:Code} (o:Nat) {T:TypeId} {sz:Nat} {rows:List (List Dt)} (ho:Is (obAt H o) (.buf T sz rows)) (hk:kpf kl o=false) (hc:Wp P kl n B c Q E (H.set o (.fx T sz rows))):Wp P kl n B c Q E H:=by
 have hoH:=obAt_some ho (by simp)
 exact Wp.reob o (x:=.fx T sz rows) hk (fun K G w g hS hg=>show ObR K w.heap G g (.buf T sz rows) from hS.ob o g _ hg hoH) (List.getElem?_eq_some_iff.1 hoH).1 hc
theorem Wp.toFixN {c:Code} (o:Nat) {T:TypeId} {sz k p:Nat} {rows:List (List Dt)} {st:Option Nat} (ho:Is (obAt H o) (.nst false T sz k p rows st)) (hk:kpf kl o=false) (hc:Wp P kl n B c Q E (H.set o (.nst true T sz k p rows st))):Wp P kl n B c Q E H:=by
 have hoH:=obAt_some ho (by simp)
 exact Wp.reob o (x:=.nst true T sz k p rows st) hk (fun K G w g hS hg=>show ObR K w.heap G g (.nst false T sz k p rows st) from hS.ob o g _ hg hoH) (List.getElem?_eq_some_iff.1 hoH).1 hc
theorem Wp.toBufN {c:Code} (o:Nat) {T:TypeId} {sz k p:Nat} {rows:List (List Dt)} {st:Option Nat} (ho:Is (obAt H o) (.nst true T sz k p rows st)) (hk:kpf kl o=false) (hc:Wp P kl n B c Q E (H.set o (.nst false T sz k p rows st))):Wp P kl n B c Q E H:=by
 have hoH:=obAt_some ho (by simp)
 exact Wp.reob o (x:=.nst false T sz k p rows st) hk (fun K G w g hS hg=>show ObR K w.heap G g (.nst true T sz k p rows st) from hS.ob o g _ hg hoH) (List.getElem?_eq_some_iff.1 hoH).1 hc
theorem mrg_map {α:Type} {k:Nat} {f:α→List Dt} {g:α→List (List Dt)} {e:α→List Dt} (h:∀ x,(f x).set k (.l (g x))=e x):∀ l:List α,mrg k (l.map f) (l.map g)=l.map e
 | []=>rfl
 | x::l=>by simp only [List.map_cons,mrg,h x,mrg_map h l]
theorem getD_innB {α:Type} {l:List α} {f:α→List (List Dt)} {d:α} {i:Nat} (hi:i < l.length) (z:List (List Dt)):(l.map f).getD i z=f (l.getD i d):=by
 simp [List.getD_eq_getElem?_getD,hi]
theorem map_set_same {α β:Type} {l:List α} {f:α→β} {d:α} {i:Nat} {x:α} (hi:i < l.length) (h:f x=f (l.getD i d)):List.map f (List.set l i x)=List.map f l:=by
 rw [List.map_set,h]
 have:(l.map f)[i]?=some (f (l.getD i d)):=by simp [List.getD_eq_getElem?_getD,hi]
 obtain ⟨h1,h2⟩:=List.getElem?_eq_some_iff.1 this
 rw [← h2]
 exact List.set_getElem_self h1
theorem Wp.toBuf {c:Code} (o:Nat) {T:TypeId} {sz:Nat} {rows:List (List Dt)} (ho:Is (obAt H o) (.fx T sz rows)) (hk:kpf kl o=false) (hc:Wp P kl n B c Q E (H.set o (.buf T sz rows))):Wp P kl n B c Q E H:=by
 have hoH:=obAt_some ho (by simp)
 exact Wp.reob o (x:=.buf T sz rows) hk (fun K G w g hS hg=>show ObR K w.heap G g (.fx T sz rows) from hS.ob o g _ hg hoH) (List.getElem?_eq_some_iff.1 hoH).1 hc
end
section
variable {P:Program} {kl:List Bool} {n:Nat} {B:Bs} {Q:Qt} {E:Env} {H:List Ob}
theorem Wp.regionQ {id:Nat} {l:List Oper} (h:RgEnd P kl n B l.toArray (Q .normal) (run1 P kl n l l ⟨E,H,True⟩)):Wp P kl n B (.region id l.toArray false) Q E H:=by
 intro hB a w hR
 refine wp_region_lit ?_
 have:=Rg.run (ops:=l.toArray) (l:=l) h
 exact this hB a w _ hR fun E' H' a' w' h1 h2=>⟨E',H',h1,h2⟩
theorem Wp.seqRW {id:Nat} {l:List Oper} {y:Code} (h:∀ K:Env→List Ob→Prop,(∀ E H,Wp P kl n B y Q E H→K E H)→(∀ E H E' H',Weak kl E H E' H'→K E' H'→K E H)→RgEnd P kl n B l.toArray K (run1 P kl n l l ⟨E,H,True⟩)):Wp P kl n B (.seq (.region id l.toArray false) y) Q E H :=
 Wp.seqW fun K hK hW=>Wp.regionQ (Q:=thenQ K Q) (h K hK hW)
theorem Wp.regionDQ {id:Nat} {os:List Oper} (plan:Plan) (hm:P.follows .mixedOrders=true) (hl:plan.length=os.length) (hp:planB os.toArray plan [] (Array.replicate os.length false)=true)
  (h:Dr P kl n B os.toArray plan [] E H (Q .normal)):Wp P kl n B (.region id os.toArray true) Q E H:=by
 intro hB a w hR
 refine wp_region_any hm ?_
 have hD:DC os.toArray (Array.replicate os.length false):=fun i hi=>by
  simp [Array.getD_eq_getD_getElem?,Array.getElem?_replicate] at hi
  split at hi <;> simp at hi
 have h1:=h hB (fun _ he=>by cases he) _ hD hp
 rw [hl] at h1
 rw [show os.toArray.size=os.length by simp]
 exact AnyO.sound _ h1 (hR.drew _) fun E' H' a' w' h1 h2=>⟨E',H',h1,h2⟩
theorem Wp.seqDW {id:Nat} {os:List Oper} {y:Code} (plan:Plan) (hm:P.follows .mixedOrders=true) (hl:plan.length=os.length) (hp:planB os.toArray plan [] (Array.replicate os.length false)=true)
  (h:∀ K:Env→List Ob→Prop,(∀ E H,Wp P kl n B y Q E H→K E H)→(∀ E H E' H',Weak kl E H E' H'→K E' H'→K E H)→RdEnd P kl n B os.toArray K (runD P kl n os plan ⟨[],E,H,True⟩)):Wp P kl n B (.seq (.region id os.toArray true) y) Q E H :=
 Wp.seqW fun K hK hW=>Wp.regionDQ (Q:=thenQ K Q) plan hm hl hp (Dr.run (h K hK hW))
theorem Wp.regDW {id:Nat} {os:List Oper} (plan:Plan) (hm:P.follows .mixedOrders=true) (hl:plan.length=os.length) (hp:planB os.toArray plan [] (Array.replicate os.length false)=true)
  (h:∀ K:Env→List Ob→Prop,(∀ E H,Q .normal E H→K E H)→(∀ E H E' H',Weak kl E H E' H'→K E' H'→K E H)→RdEnd P kl n B os.toArray K (runD P kl n os plan ⟨[],E,H,True⟩)):Wp P kl n B (.region id os.toArray true) Q E H:=by
 let K:Env→List Ob→Prop:=fun E H=>B.G0.length=kl.length→∀ a w,Rel (cx P kl n B) E H a w→∃ E' H',Q .normal E' H'∧Rel (cx P kl n B) E' H' a w
 have h1:=Wp.regionDQ (id:=id) (Q:=thenQ K Q) plan hm hl hp (Dr.run (h K (fun E H hq _ a w hR=>⟨E,H,hq,hR⟩) (fun E H E' H' hw hk hB a w hR=>hk hB a w (Rel.cut hB hR hw))))
 intro hB a w hR
 refine wp_mono (h1 hB a w hR) ?_
 intro e a' w' ⟨E',H',hq,hR'⟩
 cases e <;> first | exact hq hB a' w' hR' | exact ⟨E',H',hq,hR'⟩
end
section
variable {P:Program} {kl:List Bool} {n:Nat} {B:Bs} {K:Env→List Ob→Prop} {E:Env} {H:List Ob}
theorem Rg.skipG {ops:Array Oper} {o:Oper} {l:List Oper} {v:Va} {gw:Nat × Bool} (hg:Is o.guard (some gw)) (hb:Is (guardX ops.toList E o) (some false)) (hd:dstOk n o.dst)
  (cont:RgEnd P kl n B ops K (run1 P kl n ops.toList l ⟨eput E o.dst (.cnd false v),H,True⟩)):Rg P kl n B ops (o::l) E H K:=by
 unfold Is guardX at *
 obtain ⟨j,want⟩:=gw
 rw [hg] at hb
 intro hB a w Q hR hK
 have hw:=guardB_ok hR hg hb
 refine wpList_step fun K' hK'=>?_
 rw [if_neg (by rw [hw]; simp)]
 obtain ⟨Kk,G,hX,hS,hE,hdf,hn,hkp⟩:=hR
 have hRV:RelV (cx P kl n B) E H undef (.cnd false v) a w:=⟨Kk,G,hX,hS,hE,hdf,hn,hkp,by simp [VR]⟩
 exact hK' _ _ (Rg.run cont hB _ _ _ (hRV.put o.dst (dstOk_lt hd)) hK)
def reSkip (ops:List Oper) (o:Oper) (E:Env) (v:Va) (po:Option (Nat→Bool)) (_:List Ob):Prop:=agL ops o E (.cnd false v) po
theorem Dr.skipG {ops:List Oper} {l:Plan} {obs:List En} {k:Nat} {o:Oper} {v:Va} {gw:Nat × Bool} (hk:Is ops[k]? (some o)) (hg:Is o.guard (some gw)) (hb:Is (guardX ops E o) (some false)) (hd:dstOk n o.dst)
  (cont:RdEnd P kl n B ops.toArray K (runD P kl n ops l ⟨⟨k,E,.cnd false v,reSkip ops o E v⟩::obs,eput E o.dst (.cnd false v),H,True⟩)):Dr P kl n B ops.toArray (.rd k l) obs E H K:=by
 unfold Is guardX at *
 obtain ⟨j,want⟩:=gw
 rw [hg] at hb
 have h':=Dr.run cont
 simp only at h'
 rw [← dst_eq hk] at h'
 have hrd:∀ H',Rdr P kl n B ops.toArray k E (.cnd false v) H':=by
  intro H' E' hE' a w Q K' hR hKK
  rw [dst_eq hk] at hKK
  have hb':guardB ops.toArray.toList E j want=some false:=by simpa using hb
  rw [← guardB_congr (getA hk) hg hE'] at hb'
  have hw:=guardB_ok hR hg hb'
  unfold wpOp
  simp only [getA hk]
  rw [if_neg (by rw [hw]; simp)]
  obtain ⟨Kk,G,hX,hS,hE,hdf,hn,hkp⟩:=hR
  exact hKK _ _ (RelV.put (C:=cx P kl n B) (v:=.cnd false v) ⟨Kk,G,hX,hS,hE,hdf,hn,hkp,by simp [VR]⟩ o.dst (dstOk_lt hd))
 exact Dr.read (fun _=>hrd _) (fun _ po H' hre=>⟨hrd _,agL_ok hk hre⟩) h'
end
attribute [go_sem] reSkip
attribute [go_sem] sortS_length Option.getD_none Option.getD_some Nat.sub_zero Nat.zero_add List.drop_zero
end Go.Vc
/- Two objects change places: what is known is the same with their numbers changed. -/
set_option linter.unusedSectionVars false
namespace Go.Vc
variable [Tabs]
def swN (i j o:Nat):Nat:=bif o == i then j else bif o == j then i else o
mutual
def swV (i j:Nat):Va→Va
 | .p x=>.p x
 | .nils=>.nils
 | .full r=>.full r
 | .rp r=>.rp r
 | .ptr o off=>.ptr (swN i j o) off
 | .cs o off=>.cs (swN i j o) off
 | .el o sz k off=>.el (swN i j o) sz k off
 | .buf o=>.buf (swN i j o)
 | .mp o=>.mp (swN i j o)
 | .np o=>.np (swN i j o)
 | .sd o=>.sd (swN i j o)
 | .vw o sz a n=>.vw (swN i j o) sz a n
 | .bufc o cp=>.bufc (swN i j o) cp
 | .nv o k=>.nv (swN i j o) k
 | .ne o sz k l off=>.ne (swN i j o) sz k l off
 | .fn f vs=>.fn f (swVs i j vs)
 | .agg vs=>.agg (swVs i j vs)
 | .tup vs=>.tup (swVs i j vs)
 | .nil=>.nil
 | .cnd t v=>.cnd t (swV i j v)
 | .raw v=>.raw v
 | .er v=>.er v
 | .top=>.top
def swVs (i j:Nat):List Va→List Va
 | []=>[]
 | v::vs=>swV i j v::swVs i j vs
end
def swO (i j:Nat):Ob→Ob
 | .cells T vs=>.cells T (swVs i j vs)
 | .it o cl seen=>.it (swN i j o) cl seen
 | .buf T sz rows=>.buf T sz rows
 | .fx T sz rows=>.fx T sz rows
 | .sb T bs=>.sb T bs
 | .mp ag es=>.mp ag es
 | .mpb ag es bs cl=>.mpb ag es bs cl
 | .nst f T sz k p rows st=>.nst f T sz k (swN i j p) rows st
 | .inn T sz ins=>.inn T sz ins
 | .gone=>.gone
 | .lost=>.lost
def swE (i j:Nat):Env→Env
 | []=>[]
 | (m,v)::E=>(m,swV i j v)::swE i j E
def swL {A:Type} (i j:Nat) (l:List A):List A:=match l[i]?,l[j]? with
 | some x,some y=>(l.set i y).set j x
 | _,_=>l
def swOs (i j:Nat):List Ob→List Ob
 | []=>[]
 | x::H=>swO i j x::swOs i j H
def swH (i j:Nat) (H:List Ob):List Ob:=((swOs i j H).set i (obAt (swOs i j H) j)).set j (obAt (swOs i j H) i)
theorem swOs_map (i j:Nat) (H:List Ob):swOs i j H=H.map (swO i j):=by induction H <;> simp_all [swOs]
theorem swN_eq (i j o:Nat):swN i j o=if o=i then j else if o=j then i else o:=by
 unfold swN
 by_cases h1:o=i
 ·subst h1; simp
 ·rw [beq_false_of_ne h1,if_neg h1,cond_false]
  by_cases h2:o=j
  ·subst h2; simp
  ·rw [beq_false_of_ne h2,if_neg h2,cond_false]
theorem swN_swN (i j o:Nat):swN i j (swN i j o)=o:=by
 simp only [swN_eq]
 repeat' split
 all_goals omega
theorem swL_get {A:Type} {i j:Nat} {l:List A} (hi:i < l.length) (hj:j < l.length) (o:Nat):(swL i j l)[o]?=l[swN i j o]?:=by
 unfold swL
 rw [List.getElem?_eq_getElem hi,List.getElem?_eq_getElem hj]
 unfold swN
 by_cases h1:o=i
 ·subst h1
  by_cases h2:j=o
  ·subst h2; simp [hi]
  ·simp only [beq_self_eq_true,cond_true]
   rw [List.getElem?_set_ne h2,List.getElem?_set_self hi,List.getElem?_eq_getElem hj]
 ·rw [beq_false_of_ne h1]
  simp only [cond_false]
  by_cases h2:o=j
  ·subst h2
   simp only [beq_self_eq_true,cond_true]
   rw [List.getElem?_set_self (by simpa using hj),List.getElem?_eq_getElem hi]
  ·rw [beq_false_of_ne h2,cond_false,List.getElem?_set_ne (Ne.symm h2),List.getElem?_set_ne (Ne.symm h1)]
theorem obAt_get {o:Nat}:∀ {H:List Ob} {x:Ob},H[o]?=some x→obAt H o=x:=by
 induction o with
 | zero=>intro H x h; cases H <;> simp_all [obAt]
 | succ o ih=>intro H x h; cases H with
  | nil=>simp at h
  | cons y H=>simpa [obAt] using ih (by simpa using h)
theorem swH_eq {i j:Nat} {H:List Ob} (hi:i < H.length) (hj:j < H.length):swH i j H=swL i j (H.map (swO i j)):=by
 have h1:(H.map (swO i j))[i]?=some (swO i j H[i]):=by simp [hi]
 have h2:(H.map (swO i j))[j]?=some (swO i j H[j]):=by simp [hj]
 rw [swH,swOs_map,swL,h1,h2,obAt_get h1,obAt_get h2]
theorem swL_length {A:Type} {i j:Nat} {l:List A}:(swL i j l).length=l.length:=by
 unfold swL
 split <;> simp
theorem swN_lt {i j o n:Nat} (hi:n≤i) (hj:n≤j) (ho:o < n):swN i j o=o:=by
 unfold swN
 rw [beq_false_of_ne (by omega:o ≠ i),beq_false_of_ne (by omega:o ≠ j)]
 rfl
section
variable {K:Nat→Prop} {h:Array Obj} {G G':List Gh} {i j:Nat}
mutual
theorem swV_ok (hG:∀ (o:Nat) (g:Gh),G[o]?=some g→G'[swN i j o]?=some g):∀ (c:Value) (v:Va),VR K h G c v→VR K h G' c (swV i j v)
 | _,.p x,H=>by simpa only [swV,VR] using H
 | _,.nils,H=>by simpa only [swV,VR] using H
 | _,.full r,H=>by simpa only [swV,VR] using H
 | _,.rp r,H=>by simpa only [swV,VR] using H
 | _,.ptr o off,H=>by simp only [swV,VR] at *; obtain ⟨g,b,h1,h2⟩:=H; exact ⟨g,b,hG o g h1,h2⟩
 | _,.cs o off,H=>by simp only [swV,VR] at *; obtain ⟨g,b,h1,h2⟩:=H; exact ⟨g,b,hG o g h1,h2⟩
 | _,.el o sz k off,H=>by simp only [swV,VR] at *; obtain ⟨g,b,n,cap,h1,h2⟩:=H; exact ⟨g,b,n,cap,hG o g h1,h2⟩
 | _,.buf o,H=>by simp only [swV,VR] at *; obtain ⟨g,h1,h2⟩:=H; exact ⟨g,hG o g h1,h2⟩
 | _,.mp o,H=>by simp only [swV,VR] at *; obtain ⟨g,b,h1,h2⟩:=H; exact ⟨g,b,hG o g h1,h2⟩
 | _,.np o,H=>by
  simp only [swV,VR] at *
  rcases H with H | ⟨g,b,h1,h2⟩
  ·exact .inl H
  ·exact .inr ⟨g,b,hG o g h1,h2⟩
 | _,.sd o,H=>by simp only [swV,VR] at *; obtain ⟨g,a,n,cap,h1,h2⟩:=H; exact ⟨g,a,n,cap,hG o g h1,h2⟩
 | _,.vw o sz a n,H=>by simp only [swV,VR] at *; obtain ⟨g,ad,N,cap,h1,h2⟩:=H; exact ⟨g,ad,N,cap,hG o g h1,h2⟩
 | _,.bufc o cp,H=>by simp only [swV,VR] at *; obtain ⟨g,a,n,cap,h1,h2⟩:=H; exact ⟨g,a,n,cap,hG o g h1,h2⟩
 | _,.nv o k,H=>by simp only [swV,VR] at *; obtain ⟨g,a,n,cap,h1,h2⟩:=H; exact ⟨g,a,n,cap,hG o g h1,h2⟩
 | _,.ne o sz k l off,H=>by simp only [swV,VR] at *; obtain ⟨g,b,n,cap,h1,h2⟩:=H; exact ⟨g,b,n,cap,hG o g h1,h2⟩
 | _,.fn f vs,H=>by simp only [swV,VR] at *; obtain ⟨cs,h1,h2⟩:=H; exact ⟨cs,h1,swVs_ok hG cs vs h2⟩
 | _,.agg vs,H=>by simp only [swV,VR] at *; obtain ⟨cs,h1,h2⟩:=H; exact ⟨cs,h1,swVs_ok hG cs vs h2⟩
 | _,.tup vs,H=>by simp only [swV,VR] at *; obtain ⟨cs,h1,h2⟩:=H; exact ⟨cs,h1,swVs_ok hG cs vs h2⟩
 | _,.nil,H=>by simpa only [swV,VR] using H
 | _,.cnd t v,H=>by simp only [swV,VR] at *; exact ⟨fun e=>swV_ok hG _ v (H.1 e),H.2⟩
 | _,.raw v,H=>by simpa only [swV,VR] using H
 | _,.er v,H=>by simpa only [swV,VR] using H
 | _,.top,H=>by simp only [swV,VR]
theorem swVs_ok (hG:∀ (o:Nat) (g:Gh),G[o]?=some g→G'[swN i j o]?=some g):∀ (cs:List Value) (vs:List Va),VRs K h G cs vs→VRs K h G' cs (swVs i j vs)
 | _,[],H=>by simpa only [swVs,VRs] using H
 | _,v::vs,H=>by
  simp only [swVs,VRs] at *
  obtain ⟨c,cs',h1,h2,h3⟩:=H
  exact ⟨c,cs',h1,swV_ok hG c v h2,swVs_ok hG cs' vs h3⟩
end
theorem swO_ok (hG:∀ (o:Nat) (g:Gh),G[o]?=some g→G'[swN i j o]?=some g) {g:Gh} {x:Ob} (H:ObR K h G g x):ObR K h G' g (swO i j x):=by
 cases x with
 | cells T vs=>obtain ⟨b,cs,h1,h2,h3⟩:=H; exact ⟨b,cs,h1,h2,swVs_ok hG cs vs h3⟩
 | it o cl seen=>obtain ⟨b,bm,gm,h1,h2,h3⟩:=H; exact ⟨b,bm,gm,h1,hG o gm h2,h3⟩
 | nst f T sz k p rows st=>obtain ⟨h0,h1,gp,vs,h2,h3⟩:=H; exact ⟨h0,h1,gp,vs,hG p gp h2,h3⟩
 | inn T sz ins=>exact H
 | _=>exact H
theorem swE_get {E:Env}:∀ {m:Nat},eget (swE i j E) m=swV i j (eget E m):=by
 intro m
 induction E with
 | nil=>rfl
 | cons p E ih =>
  obtain ⟨k,v⟩:=p
  simp only [swE,eget]
  split
  ·rfl
  ·exact ih
end
section
variable {P:Program} {kl:List Bool} {n:Nat} {B:Bs} {Q:Qt} {E:Env} {H:List Ob} {a:Act} {w:World}
theorem Rel.swap {i j:Nat} (hB:B.G0.length=kl.length) (hi:kl.length≤i) (hj:kl.length≤j) (hil:i < H.length) (hjl:j < H.length) (h:Rel (cx P kl n B) E H a w):Rel (cx P kl n B) (swE i j E) (swH i j H) a w:=by
 obtain ⟨K,G,hX,hS,hE,hd,hn,hk⟩:=h
 have hiG:i < G.length:=by rw [hS.len]; exact hil
 have hjG:j < G.length:=by rw [hS.len]; exact hjl
 have hg:=fun o=>swL_get hiG hjG o
 have hG:∀ (o:Nat) (g:Gh),G[o]?=some g→(swL i j G)[swN i j o]?=some g:=fun o g ho=>by rw [hg,swN_swN]; exact ho
 have hH:∀ o,(swH i j H)[o]?=(H[swN i j o]?).map (swO i j):=fun o=>by rw [swH_eq hil hjl,swL_get (by simpa using hil) (by simpa using hjl),List.getElem?_map]
 have hlt:∀ o,o < kl.length→swN i j o=o:=fun o ho=>swN_lt hi hj ho
 refine ⟨K,swL i j G,?_,?_,fun m=>?_,hd,hn,fun o ho=>?_⟩
 ·exact { hX with
   glen:=by rw [swL_length]; exact hX.glen
   gown:=fun o g b h1 hb=>by
    rw [hg] at h1
    exact hX.gown _ g b h1 hb
   gsame:=fun o g0 ho h0=>by
    rw [hg,hlt o (by rw [← hB]; exact (List.getElem?_eq_some_iff.1 h0).1)]
    exact hX.gsame o g0 ho h0 }
 ·refine ⟨by rw [swL_length,swH_eq hil hjl,swL_length,List.length_map]; exact hS.len,hS.kb,fun o g b h1 h2=>hS.gbo _ g b (by rw [← hg]; exact h1) h2,fun o o' g g' b h1 h2 h3 h4=>?_,fun o g x h1 h2=>?_,hS.tb⟩
  ·rw [hg] at h1 h2
   have:=hS.ijo _ _ g g' b h1 h2 h3 h4
   rw [← swN_swN i j o,this,swN_swN]
  ·rw [hg] at h1
   rw [hH] at h2
   obtain ⟨y,hy,rfl⟩:=Option.map_eq_some_iff.1 h2
   exact swO_ok hG (hS.ob _ g y h1 hy)
 ·rw [swE_get]
  exact swV_ok hG _ _ (hE m)
 ·obtain ⟨x,hx,hkx⟩:=hk o ho
  refine ⟨swO i j x,by rw [hH,hlt o (kpf_lt ho),hx]; rfl,?_⟩
  cases x <;> exact hkx
theorem Wp.swap (i j:Nat) {c:Code} (hi:kl.length≤i) (hj:kl.length≤j) (hil:i < H.length) (hjl:j < H.length) (h:Wp P kl n B c Q (swE i j E) (swH i j H)):Wp P kl n B c Q E H:=fun hB a w hR=>h hB a w (Rel.swap hB hi hj hil hjl hR)
theorem Wp.loopNS {Z S:Type} {z:Z} {f:S→(S→Option Z)→(S→Option Z)→Option Z} {k:S→Option Z} {m:Nat} {c:Code} {s0:S} (i j:Nat) (hi:kl.length≤i) (hj:kl.length≤j) (live:S→Env) (objs:S→List Ob) (h0:Weak kl E H (live s0) (objs s0)) (hm:Vc.loopN m f s0 k=some z)
  (round:∀ (s:S) (nx:S→Option Z),f s nx k=some z→Wp P kl n B c (thenQ (fun E' H'=>∃ s',nx s'=some z∧(i < H'.length∧j < H'.length)∧Weak kl (swE i j E') (swH i j H') (live s') (objs s')) Q) (live s) (objs s)):Wp P kl n B (.loop c) Q E H :=
 Wp.loopN live objs h0 hm fun s nx h=>fun hB a w hR=>by
  refine wp_mono (round s nx h hB a w hR) ?_
  intro e a' w' ⟨E',H',hq,hR'⟩
  cases e with
  | normal=>obtain ⟨s',h3,h4,h5⟩:=hq; exact ⟨swE i j E',swH i j H',⟨s',h3,h5⟩,Rel.swap hB hi hj h4.1 h4.2 hR'⟩
  | _=>exact ⟨E',H',hq,hR'⟩
structure Lss (kl:List Bool) (K:Env→List Ob→Prop):Prop where
 weak:∀ E H E' H',Weak kl E H E' H'→K E' H'→K E H
 swap:∀ i j E H,kl.length≤i→kl.length≤j→i < H.length→j < H.length→K (swE i j E) (swH i j H)→K E H
theorem Wp.seqDS {id:Nat} {os:List Oper} {y:Code} (plan:Plan) (hm:P.follows .mixedOrders=true) (hl:plan.length=os.length) (hp:planB os.toArray plan [] (Array.replicate os.length false)=true)
  (h:∀ K:Env→List Ob→Prop,(∀ E H,Wp P kl n B y Q E H→K E H)→Lss kl K→RdEnd P kl n B os.toArray K (runD P kl n os plan ⟨[],E,H,True⟩)):Wp P kl n B (.seq (.region id os.toArray true) y) Q E H:=by
 intro hB a w hR
 refine wp_seq (wp_mono (Wp.regionDQ (Q:=thenQ (fun E H=>Wp P kl n B y Q E H) Q) plan hm hl hp (Dr.run (h _ (fun _ _ h=>h) ⟨fun E H E' H' hw hk=>Wp.weak hw hk,fun i j E H h1 h2 h3 h4 hk=>Wp.swap i j h1 h2 h3 h4 hk⟩)) hB a w hR) ?_)
 intro e a' w' ⟨E',H',hq,hR'⟩
 cases e <;> first | exact hq hB a' w' hR' | exact ⟨E',H',hq,hR'⟩
attribute [go_sem] swE swV swVs swH swO swOs swN
end
end Go.Vc
/- In a region that draws its order: calls that are lent data and hand back a new growing slice; what stands under a guard. -/
set_option linter.unusedSectionVars false
namespace Go.Vc
variable [Tabs]

def Dt.flat:Dt→Bool
 | .l _=>false
 | .a _=>false
 | .r _=>false
 | _=>true
def flatR:List Dt→Bool
 | []=>true
 | d::ds=>d.flat && flatR ds
def flatRs (rows:List (List Dt)):Prop:=∀ r ∈ rows,flatR r=true
theorem flatRs_map {α:Type} {e:α→List Dt} (h:∀ x,flatR (e x)=true) (l:List α):flatRs (List.map e l):=fun r hr=>by
 obtain ⟨x,_,rfl⟩:=List.mem_map.1 hr
 exact h x
section
variable {K K':Nat→Prop} {h h':Array Obj}
theorem DR.flat {c:Value}:∀ {d:Dt},d.flat=true→DR K h c d→DR K' h' c d
 | .b _,_,hd=>by simpa only [DR] using hd
 | .i _ _,_,hd=>by simpa only [DR] using hd
 | .s _,_,hd=>by simpa only [DR] using hd
 | .l _,hf,_=>by simp [Dt.flat] at hf
 | .a _,hf,_=>by simp [Dt.flat] at hf
 | .r _,hf,_=>by simp [Dt.flat] at hf
theorem DRs.flat:∀ {ds:List Dt} {vs:List Value},flatR ds=true→DRs K h vs ds→DRs K' h' vs ds
 | [],_,_,hd=>by simpa only [DRs] using hd
 | d::ds,vs,hf,hd=>by
  simp only [flatR,Bool.and_eq_true] at hf
  simp only [DRs] at *
  obtain ⟨v,vs',e,h1,h2⟩:=hd
  exact ⟨v,vs',e,DR.flat hf.1 h1,DRs.flat hf.2 h2⟩
theorem DRss.flat {sz:Nat}:∀ {rows:List (List Dt)} {vs:List Value},flatRs rows→DRss K h sz vs rows→DRss K' h' sz vs rows
 | [],_,_,hd=>by simpa only [DRss] using hd
 | r::rows,vs,hf,hd=>by
  simp only [DRss] at *
  obtain ⟨a,b,e,h1,h2,h3⟩:=hd
  exact ⟨a,b,e,h1,DRs.flat (hf r (by simp)) h2,DRss.flat (fun r' h'=>hf r' (by simp [h'])) h3⟩
end
theorem ObR.flatBuf {K K':Nat→Prop} {h:Array Obj} {G G':List Gh} {g:Gh} {T:TypeId} {sz:Nat} {rows:List (List Dt)} (hf:flatRs rows) (hx:ObR K h G g (.buf T sz rows)):ObR K' h G' g (.buf T sz rows):=by
 obtain ⟨h1,xs,h2,h3⟩:=hx
 exact ⟨h1,xs,DRss.flat hf h2,h3⟩
theorem St.push1 {K:Nat→Prop} {G:List Gh} {H:List Ob} {w:World} {g:Gh} {x:Ob} (hS:St K G H w) (hx:ObR K w.heap (G++[g]) g x)
  (hb:∀ b,own g b→b < w.heap.size∧¬ K b∧∀ (o:Nat) (g':Gh),G[o]?=some g'→¬ own g' b):St K (G++[g]) (H++[x]) w:=by
 have cs:∀ {o:Nat} {g':Gh},(G++[g])[o]?=some g'→(o < G.length∧G[o]?=some g') ∨ (o=G.length∧g'=g):=by
  intro o g' h
  rcases Nat.lt_or_ge o G.length with h1 | h1
  ·rw [List.getElem?_append_left h1] at h; exact .inl ⟨h1,h⟩
  ·rw [List.getElem?_append_right h1] at h
   rcases Nat.eq_zero_or_pos (o - G.length) with h2 | h2
   ·rw [h2] at h; simp at h; exact .inr ⟨by omega,h.symm⟩
   ·rw [List.getElem?_eq_none (by simp; omega)] at h; cases h
 refine ⟨by simp [hS.len],hS.kb,fun o g' b hg hgb=>?_,fun o o' g1 g2 b h1 h2 hb1 hb2=>?_,fun o g' y hg hy=>?_,hS.tb⟩
 ·rcases cs hg with ⟨_,h⟩ | ⟨_,rfl⟩
  ·exact hS.gbo o g' b h hgb
  ·exact ⟨(hb b hgb).1,(hb b hgb).2.1⟩
 ·rcases cs h1 with ⟨_,e1⟩ | ⟨e1,rfl⟩ <;> rcases cs h2 with ⟨_,e2⟩ | ⟨e2,rfl⟩
  ·exact hS.ijo o o' g1 g2 b e1 e2 hb1 hb2
  ·exact absurd hb1 ((hb b hb2).2.2 o g1 e1)
  ·exact absurd hb2 ((hb b hb1).2.2 o' g2 e2)
  ·omega
 ·rcases cs hg with ⟨hl,h⟩ | ⟨rfl,rfl⟩
  ·rw [List.getElem?_append_left (by rw [← hS.len]; exact hl)] at hy
   exact ObR.keep ⟨fun _ h=>h,fun _ _=>rfl⟩ (f:=fun _=>true) (fun q g0 _ hq=>by rw [List.getElem?_append_left (List.getElem?_eq_some_iff.1 hq).1]; exact hq) (fun _ _=>rfl) (Ob.all_true _) (hS.ob o g' y h hy)
  ·rw [hS.len,List.getElem?_append_right (Nat.le_refl _)] at hy
   simp at hy
   subst hy
   exact hx
section
variable {P:Program} {kl:List Bool} {n:Nat} {B:Bs} {K:Env→List Ob→Prop} {E:Env} {H:List Ob}
theorem callLN_wp {o:Oper} {c:Call} {fop:Operand} {f:FuncId} {caps args:List Va} {T:TypeId} {sz:Nat} {rows:List (List Dt)} (hs:Does P f args [] fun r X=>r=.buf 0∧X=[.buf T sz rows]) (hfl:flatRs rows) (ho:o.op=.call c) (hc:c.callee=.value fop)
  (hok:opOk true E fop∧allOk true E c.args.toList) (hf:opnd E fop=.fn f caps) (hp:lendVs H (opnds E c.args.toList++caps)=some args) {a:Act} {w:World} {Q:Exit→Act→World→Prop} {K':Act→World→Prop} (hR:Rel (cx P kl n B) E H a w)
  (hK:∀ c' w',RelV (cx P kl n B) E (H++[.buf T sz rows]) c' (.buf H.length) a w'→K' (a.put o.dst c') w'):o.wp P a w K' Q:=by
 obtain ⟨Kk,G,hX,hS,hE,hdf,hn,hkp⟩:=hR
 have hvf:=opnd_ok hE rfl fop hok.1
 rw [hf] at hvf
 simp only [VR] at hvf
 obtain ⟨cs,hcs,hcv⟩:=hvf
 have hargs:=opnds_ok hE rfl c.args.toList hok.2
 have hall:=lendVs_ok hS hp (hargs.append hcv)
 unfold Oper.wp
 rw [enter_run ho hc hcs hs.1]
 simp only [Oper.upon]
 refine (hs.2 (withG Kk G) [] w _ (St.nil (withG_lt hS) (hS.tb.mono ⟨fun _ h=>.inl h,fun _ _=>rfl⟩)) hall).mono ?_
 rintro e w' ⟨c',r,X',K1,G1,rfl,⟨rfl,rfl⟩,hX1,hS1,hv,_⟩
 have fr:∀ b,b < w.heap.size→w'.heap[b]?=w.heap[b]?:=fun b hb=>hX1.frame b hb (fun o g0 h=>by simp at h)
 have hA:=hS.after hX1
 simp only [VR] at hv
 obtain ⟨g,hg,rfl,hgo⟩:=hv
 have hgl:G1=[g]:=by
  have hl:=hS1.len
  match G1,hl,hg with
  | [g'],_,hg=>simp at hg; rw [hg]
 subst hgl
 have hbn:∀ b,own g b→w.heap.size≤b∧b < w'.heap.size:=fun b hb=>⟨(hX1.gown 0 g b hg hb).elim (fun ⟨_,_,h,_⟩=>by simp at h) id,(hS1.gbo 0 g b hg hb).1⟩
 have hx:=hS1.ob 0 g (.buf T sz rows) hg rfl
 have hS2:St Kk (G++[g]) (H++[.buf T sz rows]) w':=hA.push1 (ObR.flatBuf hfl hx) fun b hb=>⟨(hbn b hb).2,fun hk=>by have:=hS.kb b hk; have:=(hbn b hb).1; omega,fun o' g' h' e=>by have:=(hS.gbo o' g' b h' e).1; have:=(hbn b hb).1; omega⟩
 have hMg:Mg (fun _=>true) G (G++[g]):=fun q g0 _ hq=>by rw [List.getElem?_append_left (List.getElem?_eq_some_iff.1 hq).1]; exact hq
 have cs:∀ {o:Nat} {g':Gh},(G++[g])[o]?=some g'→(o < G.length∧G[o]?=some g') ∨ (o=G.length∧g'=g):=by
  intro o g' h
  rcases Nat.lt_or_ge o G.length with h1 | h1
  ·rw [List.getElem?_append_left h1] at h; exact .inl ⟨h1,h⟩
  ·rw [List.getElem?_append_right h1] at h
   rcases Nat.eq_zero_or_pos (o - G.length) with h2 | h2
   ·rw [h2] at h; simp at h; exact .inr ⟨by omega,h.symm⟩
   ·rw [List.getElem?_eq_none (by simp; omega)] at h; cases h
 have hX2:Ext (kpf kl) B.K0 B.G0 B.w0 Kk (G++[g]) w':=by
  refine hX.trans ⟨hX1.os,hX1.tape,hX1.output,hX1.size,fun _ h=>h,fun _ h=>.inl h,by simp,fun o' g' b h1 hb=>?_,fun o' g0 _ h0=>hMg o' g0 rfl h0,fun b hb _=>fr b hb⟩
  rcases cs h1 with ⟨_,h⟩ | ⟨_,rfl⟩
  ·exact .inl ⟨o',g',h,hb⟩
  ·exact .inr (hbn b hb).1
 refine hK g.sv w' ⟨Kk,G++[g],hX2,hS2,fun m=>VR.keep (f:=fun _=>true) ⟨fun _ h=>h,fun b hb=>fr b (hS.kb b hb)⟩ hMg _ _ (Va.all_true _) (hE m),hdf,hn,fun y hy=>?_,?_⟩
 ·obtain ⟨z,hz,hk⟩:=hkp y hy
  exact ⟨z,by rw [List.getElem?_append_left (List.getElem?_eq_some_iff.1 hz).1]; exact hz,hk⟩
 ·simp only [VR]
  exact ⟨g,by rw [← hS.len]; simp,rfl,hgo⟩
end
section
variable {P:Program} {kl:List Bool} {n:Nat} {B:Bs} {ops:List Oper} {K:Env→List Ob→Prop} {l:Plan} {obs:List En} {E:Env} {H:List Ob}
theorem Br.callLN {k:Nat} {L:List Nat} {f:FuncId} {av args:List Va} {o:Oper} {T:TypeId} {sz:Nat} {rows:List (List Dt)} (hs:Does P f args [] fun r X=>r=.buf 0∧X=[.buf T sz rows]) (hfl:flatRs rows) (hk:Is ops[k]? (some o)) (ha:Is (callArgsX E o) (some (f,av))) (hb:Is (guardX ops E o) (some true)) (hp:Is (lendVs H av) (some args)) (hok:callOk n true E o)
  (hag:againAll L none (H++[.buf T sz rows]) obs)
  (cont:RdEnd P kl n B ops.toArray K (runD P kl n ops l ⟨obs,eput E o.dst (wrapG o.guard true (.buf H.length)),H++[.buf T sz rows],True⟩)):Br P kl n B ops.toArray k L l obs E H K:=by
 unfold Is at *
 unfold callArgsX at ha
 split at ha
 rotate_left
 ·cases ha
 rename_i c h1
 split at ha
 rotate_left
 ·cases ha
 rename_i fop h3
 split at ha
 rotate_left
 ·cases ha
 rename_i f' caps h4
 cases ha
 obtain ⟨hd,hk1,hk2⟩:=callOk_spec hok h1 h3
 have h':=Dr.run cont
 simp only at h'
 rw [← dst_eq hk] at h'
 refine Br.eff (po:=none) (fun _=>?_) hag h'
 intro E' hE' a w Q K' hR hK
 have hop:=looks_op (getA hk) hE'
 rw [h1] at hop
 have hfo:rnd E fop=rnd E' fop:=hop fop (by simp [Op.operands,Call.operands,h3])
 have hag':Agree c.args.toList E E':=fun x hx=>hop x (by simp only [Op.operands,Call.operands,Array.toList_append,List.mem_append]; exact .inr hx)
 rw [Agree.opOk hfo] at hk1
 rw [Agree.allOk hag'] at hk2
 rw [Agree.opnd hfo] at h4
 rw [Agree.opnds hag'] at hp
 rw [dst_eq hk] at hK
 unfold wpOp
 simp only [getA hk]
 unfold guardX at hb
 cases hgd:o.guard with
 | none =>
  rw [hgd] at hb hK
  rw [if_pos (by simp [Region.wanted,hgd])]
  exact .inl (callLN_wp hs hfl h1 h3 ⟨hk1,hk2⟩ h4 hp hR fun c' w' hRV=>hK _ _ (hRV.put o.dst (dstOk_lt hd)))
 | some gw =>
  obtain ⟨j,want⟩:=gw
  rw [hgd] at hb hK
  have hb':guardB ops.toArray.toList E j want=some true:=by simpa using hb
  rw [← guardB_congr (getA hk) hgd hE'] at hb'
  have hw:=guardB_ok hR hgd hb'
  rw [if_pos hw]
  exact .inl (callLN_wp hs hfl h1 h3 ⟨hk1,hk2⟩ h4 hp hR fun c' w' hRV=>hK _ _ (RelV.put (v:=.cnd true _) (by
   obtain ⟨Kk,G,q1,q2,q3,q4,q5,q6,q7⟩:=hRV
   exact ⟨Kk,G,q1,q2,q3,q4,q5,q6,by simp only [VR]; exact ⟨fun _=>q7,fun e=>Bool.noConfusion e⟩⟩) o.dst (dstOk_lt hd)))
theorem Br.skipG {k:Nat} {L:List Nat} {o:Oper} {v:Va} {gw:Nat × Bool} (hk:Is ops[k]? (some o)) (hg:Is o.guard (some gw)) (hb:Is (guardX ops E o) (some false)) (hd:dstOk n o.dst)
  (cont:RdEnd P kl n B ops.toArray K (runD P kl n ops l ⟨obs,eput E o.dst (.cnd false v),H,True⟩)):Br P kl n B ops.toArray k L l obs E H K:=by
 unfold Is guardX at *
 obtain ⟨j,want⟩:=gw
 rw [hg] at hb
 have h':=Dr.run cont
 simp only at h'
 rw [← dst_eq hk] at h'
 exact Br.skip (fun _=>rdr_skip hk hg hb hd) h'
theorem Br.runT {k:Nat} {L:List Nat} {o:Oper} {gw:Nat × Bool} (hk:Is ops[k]? (some o)) (hg:Is o.guard (some gw)) (hb:Is (guardX ops E o) (some true)) (h:RdEnd P kl n B ops.toArray K (runD P kl n ops l (dEffG n o L (effP P E H o.op) ⟨obs,E,H,True⟩ (effV P (kpf kl) E H o.op)))):Br P kl n B ops.toArray k L l obs E H K:=by
 unfold Is guardX at *
 obtain ⟨j,want⟩:=gw
 rw [hg] at hb
 have hok:=(runD_prev h).2
 have h':=Dr.run h
 simp only [dEffG] at h'
 rw [← dst_eq hk] at h'
 exact Br.eff (fun _=>efr_okG (getA hk) hg (by simpa using hb) hok.1 hok.2.1) hok.2.2 h'
theorem Br.callEG {k:Nat} {L:List Nat} {f:FuncId} {av args:List Va} {X Y:List Ob} {o:Oper} {v:Va} (ids:List Nat) (hs:Does P f args X fun r X'=>r=v∧X'=Y) (hk:Is ops[k]? (some o)) (ha:Is (callArgsX E o) (some (f,av))) (hb:Is (guardX ops E o) (some true)) (hp:Is (rnAs ids av) (some args)) (hXs:Is (subH ids H ids) (some X)) (hids:idsOk H.length ids=true) (hok:callOk n true E o)
  (hag:againAll L (some (keepF ids H)) (setL (pruneH (keepF ids H) H) ids (bkOs ids H.length Y)) obs)
  (cont:RdEnd P kl n B ops.toArray K (runD P kl n ops l ⟨obs,eput (pruneE (keepF ids H) E) o.dst (wrapG o.guard true (bkV ids H.length v)),setL (pruneH (keepF ids H) H) ids (bkOs ids H.length Y),True⟩)):Br P kl n B ops.toArray k L l obs E H K:=by
 unfold Is at *
 unfold callArgsX at ha
 split at ha
 rotate_left
 ·cases ha
 rename_i c h1
 split at ha
 rotate_left
 ·cases ha
 rename_i fop h3
 split at ha
 rotate_left
 ·cases ha
 rename_i f' caps h4
 cases ha
 obtain ⟨hd,hk1,hk2⟩:=callOk_spec hok h1 h3
 have h':=Dr.run cont
 simp only at h'
 rw [← dst_eq hk] at h'
 refine Br.eff (po:=some (keepF ids H)) (fun _=>?_) hag h'
 intro E' hE' a w Q K' hR hK
 have hop:=looks_op (getA hk) hE'
 rw [h1] at hop
 have hfo:rnd E fop=rnd E' fop:=hop fop (by simp [Op.operands,Call.operands,h3])
 have hag':Agree c.args.toList E E':=fun x hx=>hop x (by simp only [Op.operands,Call.operands,Array.toList_append,List.mem_append]; exact .inr hx)
 rw [Agree.opOk hfo] at hk1
 rw [Agree.allOk hag'] at hk2
 rw [Agree.opnd hfo] at h4
 rw [Agree.opnds hag'] at hp
 rw [dst_eq hk] at hK
 unfold wpOp
 simp only [getA hk]
 unfold guardX at hb
 cases hgd:o.guard with
 | none =>
  rw [hgd] at hb hK
  rw [if_pos (by simp [Region.wanted,hgd])]
  refine .inl (callO_wp ids hs h1 h3 ⟨hk1,hk2⟩ h4 hp hXs hids hR fun c' r X' w' ⟨hr,hX⟩ _ hRV=>?_)
  subst hr; subst hX
  exact hK _ _ (hRV.put o.dst (dstOk_lt hd))
 | some gw =>
  obtain ⟨j,want⟩:=gw
  rw [hgd] at hb hK
  have hb':guardB ops.toArray.toList E j want=some true:=by simpa using hb
  rw [← guardB_congr (getA hk) hgd hE'] at hb'
  have hw:=guardB_ok hR hgd hb'
  rw [if_pos hw]
  refine .inl (callO_wp ids hs h1 h3 ⟨hk1,hk2⟩ h4 hp hXs hids hR fun c' r X' w' ⟨hr,hX⟩ _ hRV=>?_)
  subst hr; subst hX
  exact hK _ _ (RelV.put (v:=.cnd true _) (by
   obtain ⟨Kk,G,q1,q2,q3,q4,q5,q6,q7⟩:=hRV
   exact ⟨Kk,G,q1,q2,q3,q4,q5,q6,by simp only [VR]; exact ⟨fun _=>q7,fun e=>Bool.noConfusion e⟩⟩) o.dst (dstOk_lt hd))
end
attribute [go_sem] Option.toArray Array.toList_append
section
variable {P:Program} {kl:List Bool} {n:Nat} {B:Bs} {K:Env→List Ob→Prop} {E:Env} {H:List Ob}
theorem Rg.callLN {ops:Array Oper} {o:Oper} {l:List Oper} {f:FuncId} {av args:List Va} {T:TypeId} {sz:Nat} {rows:List (List Dt)} (hs:Does P f args [] fun r X=>r=.buf 0∧X=[.buf T sz rows]) (hfl:flatRs rows) (ha:Is (callArgs E o) (some (f,av))) (hp:Is (lendVs H av) (some args)) (hok:callOk n true E o)
  (cont:RgEnd P kl n B ops K (run1 P kl n ops.toList l ⟨eput E o.dst (.buf H.length),H++[.buf T sz rows],True⟩)):Rg P kl n B ops (o::l) E H K:=by
 obtain ⟨c,fop,caps,e1,e2,e3,e4,e5⟩:=callArgs_spec ha
 obtain ⟨hd,hk⟩:=callOk_spec hok e1 e3
 intro hB a w Q hR hKK
 refine wpList_plain e2 fun K' hK'=>?_
 exact callLN_wp hs hfl e1 e3 hk e4 (by rw [← e5]; exact hp) hR fun c' w' hRV=>hK' _ _ (Rg.run cont hB _ _ _ (hRV.put o.dst (dstOk_lt hd)) hKK)
end
end Go.Vc
/- Functions that put another object in the place of one of the caller's: what they do,how their walk shows it,how a call uses it. -/
set_option linter.unusedSectionVars false
namespace Go.Vc
variable [Tabs]
def hasN:List Nat→Nat→Bool
 | [],_=>false
 | x::l,i=>bif i == x then true else hasN l i
def maskK (ch:List Nat):Nat→List Bool→List Bool
 | _,[]=>[]
 | i,b::l=>(b && !hasN ch i)::maskK ch (i+1) l
theorem maskK_length (ch:List Nat):∀ (i:Nat) (l:List Bool),(maskK ch i l).length=l.length
 | _,[]=>rfl
 | i,b::l=>by simp [maskK,maskK_length ch (i+1) l]
theorem maskK_get (ch:List Nat):∀ (i:Nat) (l:List Bool) (o:Nat),kpf (maskK ch i l) o=(kpf l o && !hasN ch (i+o))
 | _,[],o=>by simp [maskK,kpf]
 | i,b::l,0=>by simp [maskK,kpf]
 | i,b::l,o+1=>by simp only [maskK,kpf]; rw [maskK_get ch (i+1) l o,show i+1+o=i+(o+1) by omega]
theorem maskK_kp {ch:List Nat} {X:List Ob}:kpOk (kpf (maskK ch 0 (kinds X))) X:=fun o h=>by
 rw [maskK_get,Bool.and_eq_true] at h
 exact kinds_ok X o h.1
def DoesC (P:Program) (f:FuncId) (args:List Va) (X:List Ob) (ch:List Nat) (Post:Va→List Ob→Prop):Prop :=
 callable P f∧∀ K G w vals,St K G X w→VRs K w.heap G vals args →
  Calls P f vals.toArray w fun e w'=>∃ c r X' K' G',e=.returned c∧Post r X'∧Ext (kpf (maskK ch 0 (kinds X))) K G w K' G' w'∧St K' G' X' w'∧VR K' w'.heap G' c r∧kpOk (kpf (maskK ch 0 (kinds X))) X'
theorem DoesC.of_wp {P:Program} {f:FuncId} {fn:Func} {code:Code} {args:List Va} {X:List Ob} {Post:Va→List Ob→Prop} (ch:List Nat) (m n:Nat) (rs:List ResultVar) (hf:P.funcs[f]?=some fn) (hb:fn.body=some code) (hnm:(fn.name == "runtime.NumGoroutine")=false) (hn:fn.ntmps=n) (hrs:fn.results.toList=rs) (hl:args.length≤n)
  (h:∀ B,Wp P (maskK ch 0 (kinds X)) n B code (retQ P rs m (maskK ch 0 (kinds X)) Post) (envOf 0 args) X):DoesC P f args X ch Post:=by
 subst hn
 subst hrs
 refine ⟨⟨fn,hf,hnm,by rw [hb]; rfl⟩,fun K G w vals hS hV=>?_⟩
 have hvl:=hV.length
 refine calls_of_wp hf hb ?_
 have hB:G.length=(maskK ch 0 (kinds X)).length:=by rw [maskK_length,kinds_length,hS.len]
 have hR:Rel (cx P (maskK ch 0 (kinds X)) fn.ntmps ⟨K,G,w⟩) (envOf 0 args) X { tmps:=vals.toArray++Array.replicate (fn.ntmps - vals.toArray.size) undef,defers:=[] } w:=by
  refine ⟨K,G,Ext.refl _ _ _ _,hS,fun j=>?_,rfl,by simp; omega,maskK_kp⟩
  have:=get_envOf (K:=K) (h:=w.heap) (G:=G) 0 j hV
  simp only [Nat.zero_le,if_true,Nat.sub_zero] at this
  have e:(vals.toArray++Array.replicate (fn.ntmps - vals.toArray.size) undef).getD j undef=vals.getD j undef:=by
   rw [Array.getD_eq_getD_getElem?,List.getD_eq_getElem?_getD,Array.getElem?_append]
   split
   ·simp
   ·rename_i hj
    rw [List.getElem?_eq_none (by simpa using hj),Array.getElem?_replicate]
    split <;> rfl
  rw [e]; exact this
 refine wp_mono (h ⟨K,G,w⟩ hB _ _ hR) ?_
 intro e a w' ⟨E,H,hq,hR'⟩
 have fin:RetOk P fn.results.toList m (maskK ch 0 (kinds X)) Post E H→a.defers=[]∧∃ v,(results fn a.tmps).run P w'=.ok v w'∧∃ c r X' K' G',Ending.returned v=.returned c∧Post r X'∧Ext (kpf (maskK ch 0 (kinds X))) K G w K' G' w'∧St K' G' X' w'∧VR K' w'.heap G' c r∧kpOk (kpf (maskK ch 0 (kinds X))) X':=by
  intro hq
  obtain ⟨h1,h2,h3,h4,h5,r,X',h6,h7,h8,h9,h10,h11⟩:=hq
  obtain ⟨K1,G1,hX,hS1,hE,hd,_,hk⟩:=hR'
  obtain ⟨c,hc,hv⟩:=resV_ok (P:=P) hS1 hE h1
  have hmk:G.length≤m:=by rw [hB]; exact h2
  have hMg:Mg (fun o=>decide (o < m)) G1 (G1.take m):=fun o g ho hg=>by rw [List.getElem?_take,if_pos (by simpa using ho)]; exact hg
  have hv2:VR (frozenB K1 G1 H m) w'.heap (G1.take m) c (outV m H (resV P E H fn.results.toList).v):=VR.keep ⟨fun _ h=>h,fun _ _=>rfl⟩ hMg _ _ h4 (outV_ok hS1 m hv)
  have hS2:=hS1.out h5
  have hS3:=hS2.cut h7 (by rw [h8]; exact h10)
  rw [h8,List.take_take,Nat.min_self] at hS3
  refine ⟨hd,c,hc,c,r,X',frozenB K1 G1 H m,G1.take m,rfl,h11,hX.out hmk,hS3,leV_ok h6 hv2,fun o ho=>?_⟩
  obtain ⟨vs,hvs,hkt⟩:=hk o ho
  have hom:o < m:=Nat.lt_of_lt_of_le (kpf_lt ho) h2
  obtain ⟨x,hx,hle⟩:=leH_get h7 o _ (List.getElem?_eq_getElem (by rw [h8]; exact hom))
  obtain ⟨x0,hx0,rfl⟩:=outH_get m H hx
  rw [List.getElem?_take,if_pos hom,hvs] at hx0
  cases hx0
  exact ⟨_,List.getElem?_eq_getElem (by rw [h8]; exact hom),leO_kept hle (by cases vs <;> first | rfl | exact hkt | cases hkt)⟩
 cases e with
 | normal=>exact fin hq
 | ret=>exact fin hq
 | exit id=>exact hq.elim
 | goto l=>exact hq.elim
 | panic ch=>exact hq.elim
 | outgrown=>exact hq.elim

section
variable {P:Program} {kl:List Bool} {n:Nat} {B:Bs} {K:Env→List Ob→Prop} {E:Env} {H:List Ob} {ops:Array Oper}
theorem callC_wp {o:Oper} {c:Call} {fop:Operand} {f:FuncId} {caps args:List Va} {X:List Ob} {Post:Va→List Ob→Prop} (ids ch:List Nat) (fK:Nat→Bool) (hs:DoesC P f args X ch Post) (hf1:∀ j i:Nat,ids[j]?=some i→fK i=true→kpf (maskK ch 0 (kinds X)) j=true) (hf2:∀ o,kpf kl o=true→fK o=true) (e1:o.op=.call c) (e3:c.callee=.value fop) (hk:opOk true E fop∧allOk true E c.args.toList) (e4:opnd E fop=.fn f caps)
  (hp:rnAs ids (opnds E c.args.toList++caps)=some args) (hXs:subH ids H ids=some X) (hids:idsOk H.length ids=true) {a:Act} {w:World} {Q:Exit→Act→World→Prop} {K':Act→World→Prop} (hR:Rel (cx P kl n B) E H a w)
  (hK':∀ c' r X' w',Post r X'→r.ok→RelV (cx P kl n B) (pruneE fK E) (setL (pruneH fK H) ids (bkOs ids H.length X')) c' (bkV ids H.length r) a w'→K' (a.put o.dst c') w'):o.wp P a w K' Q:=by
 obtain ⟨Kk,G,hX,hS,hE,hdf,hn,hkp⟩:=hR
 have hvf:=opnd_ok hE rfl fop hk.1
 rw [e4] at hvf
 simp only [VR] at hvf
 obtain ⟨cs,hcs,hcv⟩:=hvf
 have hargs:=opnds_ok hE rfl c.args.toList hk.2
 obtain ⟨hnd,hlt⟩:=idsOk_spec hids
 obtain ⟨hXl,hXg⟩:=subH_get hXs
 -- the ghosts that are handed over
 have hGl:∀ i ∈ ids,i < G.length:=fun i hi=>by rw [hS.len]; exact hlt i hi
 obtain ⟨Gs,hGsl,hGs⟩:∃ Gs:List Gh,Gs.length=ids.length∧∀ (j i:Nat),ids[j]?=some i→Gs[j]?=G[i]?:=by
  refine ⟨ids.map fun i=>G.getD i ⟨none,undef,[]⟩,by simp,fun j i hj=>?_⟩
  have:=hGl i (List.mem_of_getElem? hj)
  simp [hj,List.getElem?_eq_getElem this]
 have inv:∀ {j:Nat} {g:Gh},Gs[j]?=some g→∃ i,ids[j]?=some i∧G[i]?=some g:=by
  intro j g hg
  have hj:=(List.getElem?_eq_some_iff.1 hg).1
  rw [hGsl] at hj
  exact ⟨ids[j],List.getElem?_eq_getElem hj,by rw [← hGs j _ (List.getElem?_eq_getElem hj)]; exact hg⟩
 have hSs:St Kk Gs X w:=by
  refine ⟨by rw [hGsl,hXl],hS.kb,fun j g b hg hb=>?_,fun j j' g g' b hg hg' hb hb'=>?_,fun j g x hg hx=>?_,hS.tb⟩
  ·obtain ⟨i,_,hi⟩:=inv hg
   exact hS.gbo i g b hi hb
  ·obtain ⟨i,hij,hi⟩:=inv hg
   obtain ⟨i',hij',hi'⟩:=inv hg'
   obtain rfl:=hS.ijo i i' g g' b hi hi' hb hb'
   exact (List.getElem?_inj (List.getElem?_eq_some_iff.1 hij).1 hnd).1 (hij.trans hij'.symm)
  ·obtain ⟨i,hij,hi⟩:=inv hg
   obtain ⟨x',hx',hrn⟩:=hXg j i hij
   rw [hx] at hx'; cases hx'
   have hil:=hlt i (List.mem_of_getElem? hij)
   have hoi:H[i]?=some (obAt H i) ∨ obAt H i=.gone:=by
    rcases Classical.em (obAt H i=.gone) with e | e
    ·exact .inr e
    ·exact .inl (obAt_some rfl e)
   rcases hoi with hoi | hoi
   ·exact rnO_ok (fun j o h=>hGs j o h) hrn (hS.ob i g _ hi hoi)
   ·rw [hoi] at hrn; simp only [rnO] at hrn; cases hrn; trivial
 have hall:=rnAs_ok (fun j o h=>hGs j o h) hp (hargs.append hcv)
 unfold Oper.wp
 rw [enter_run e1 e3 hcs hs.1]
 simp only [Oper.upon]
 refine (hs.2 Kk Gs w _ hSs hall).mono ?_
 rintro e w' ⟨c',r,X',K1,G1,rfl,hpost,hX1,hS1,hv,hkp1⟩
 have hGl1:ids.length≤G1.length:=by rw [← hGsl]; exact hX1.glen
 have hXl1:ids.length≤X'.length:=by rw [← hS1.len]; exact hGl1
 let G2:=setL G ids G1
 -- how the ghosts lie in the new list
 have g2new:∀ (j:Nat) (g:Gh),G1[j]?=some g→G2[bkI ids H.length j]?=some g:=by
  intro j g hg
  rcases Nat.lt_or_ge j ids.length with h | h
  ·rw [bkI_lt (List.getElem?_eq_getElem h)]
   show (setL G ids G1)[_]?=_
   rw [setL_hit hnd hGl hGl1 (List.getElem?_eq_getElem h)]
   exact hg
  ·rw [bkI_ge h,← hS.len]
   show (setL G ids G1)[_]?=_
   rw [setL_new h]
   exact hg
 have g2cases:∀ {o:Nat} {g:Gh},G2[o]?=some g→(∃ j:Nat,ids[j]?=some o∧G1[j]?=some g) ∨ (o ∉ ids∧o < G.length∧G[o]?=some g) ∨ (∃ j:Nat,ids.length≤j∧o=G.length+(j - ids.length)∧G1[j]?=some g):=fun h=>setL_cases hnd hGl hGl1 h
 have old:∀ {j:Nat} {g:Gh} {b:Nat},G1[j]?=some g→own g b→(∃ (i:Nat) (g0:Gh),i ∈ ids∧G[i]?=some g0∧own g0 b) ∨ w.heap.size≤b:=by
  intro j g b hg hb
  rcases hX1.gown j g b hg hb with ⟨j0,g0,h1,h2⟩ | h
  ·obtain ⟨i,hij,hi⟩:=inv h1
   exact .inl ⟨i,g0,List.mem_of_getElem? hij,hi,h2⟩
  ·exact .inr h
 have fr:∀ b,b < w.heap.size→(∀ (o:Nat) (g:Gh),o ∈ ids→G[o]?=some g→¬ own g b)→w'.heap[b]?=w.heap[b]?:=fun b hb hn=>hX1.frame b hb fun j g hg=>by
  obtain ⟨i,hij,hi⟩:=inv hg
  exact hn i g (List.mem_of_getElem? hij) hi
 have hMk:Mn Kk K1 w.heap w'.heap:=⟨hX1.k,fun b hb=>fr b (hS.kb b hb) fun o g _ hg e=>(hS.gbo o g b hg e).2 hb⟩
 have same:∀ {j i:Nat},ids[j]?=some i→fK i=true→G1[j]?=G[i]?:=by
  intro j i hj hkt
  have hk:kpf (maskK ch 0 (kinds X)) j=true:=hf1 j i hj hkt
  have hjl:=(List.getElem?_eq_some_iff.1 hj).1
  have hgs:Gs[j]?=some Gs[j]:=List.getElem?_eq_getElem (by rw [hGsl]; exact hjl)
  rw [hX1.gsame j _ hk hgs,← hGs j i hj,hgs]
 have hMg:Mg fK G G2:=by
  intro o g ho hg
  have hol:=(List.getElem?_eq_some_iff.1 hg).1
  by_cases hin:o ∈ ids
  ·obtain ⟨j,hj⟩:=List.getElem?_of_mem hin
   show (setL G ids G1)[o]?=_
   rw [setL_hit hnd hGl hGl1 hj,same hj ?_]
   ·exact hg
   ·simpa [keepF,hin] using ho
  ·show (setL G ids G1)[o]?=_
   rw [setL_old hin hol]
   exact hg
 let H2:=setL (pruneH fK H) ids (bkOs ids H.length X')
 have hHl:∀ i ∈ ids,i < (pruneH fK H).length:=fun i hi=>by rw [pruneH_map,List.length_map]; exact hlt i hi
 have hS2:St K1 G2 H2 w':=by
  refine ⟨?_,hS1.kb,fun o g b hg hb=>?_,fun o o' g g' b hg hg' hb hb'=>?_,fun o g x hg hx=>?_,hS1.tb⟩
  ·show (setL G ids G1).length=(setL (pruneH fK H) ids (bkOs ids H.length X')).length
   rw [setL_length hGl1,setL_length (by rw [bkOs_length]; exact hXl1),pruneH_map,List.length_map,bkOs_length,hS.len,hS1.len]
  ·rcases g2cases hg with ⟨j,_,h⟩ | ⟨ho,hol,h⟩ | ⟨j,_,_,h⟩
   ·exact hS1.gbo j g b h hb
   ·have:=hS.gbo o g b h hb
    refine ⟨Nat.lt_of_lt_of_le this.1 hX1.size,fun hk=>?_⟩
    rcases hX1.knew b hk with h' | ⟨j0,g0,h1,h2⟩ | h'
    ·exact this.2 h'
    ·obtain ⟨i,hij,hi⟩:=inv h1
     exact ho (hS.ijo o i g g0 b h hi hb h2 ▸ List.mem_of_getElem? hij)
    ·omega
   ·exact hS1.gbo j g b h hb
  ·have sep:∀ {o:Nat} {g g':Gh} {b j:Nat},o ∉ ids→G[o]?=some g→own g b→G1[j]?=some g'→own g' b→False:=by
    intro o g g' b j ho h hb h' hb'
    have hbs:=(hS.gbo o g b h hb).1
    rcases old h' hb' with ⟨i,g0,hi,h0,hb0⟩ | h0
    ·exact ho (hS.ijo o i g g0 b h h0 hb hb0 ▸ hi)
    ·omega
   rcases g2cases hg with ⟨j,hj,h⟩ | ⟨ho,hol,h⟩ | ⟨j,hj,ho,h⟩ <;> rcases g2cases hg' with ⟨j',hj',h'⟩ | ⟨ho',hol',h'⟩ | ⟨j',hj',ho',h'⟩
   ·obtain rfl:=hS1.ijo j j' g g' b h h' hb hb'
    rw [hj] at hj'; cases hj'; rfl
   ·exact (sep ho' h' hb' h hb).elim
   ·obtain rfl:=hS1.ijo j j' g g' b h h' hb hb'
    have:=(List.getElem?_eq_some_iff.1 hj).1
    omega
   ·exact (sep ho h hb h' hb').elim
   ·exact hS.ijo o o' g g' b h h' hb hb'
   ·exact (sep ho h hb h' hb').elim
   ·obtain rfl:=hS1.ijo j j' g g' b h h' hb hb'
    have:=(List.getElem?_eq_some_iff.1 hj').1
    omega
   ·exact (sep ho' h' hb' h hb).elim
   ·obtain rfl:=hS1.ijo j j' g g' b h h' hb hb'
    omega
  ·have hcx:=setL_cases hnd hHl (by rw [bkOs_length]; exact hXl1) hx
   have hlenE:(pruneH fK H).length=G.length:=by rw [pruneH_map,List.length_map,hS.len]
   have new:∀ {j:Nat},G1[j]?=some g→(bkOs ids H.length X')[j]?=some x→ObR K1 w'.heap G2 g x:=by
    intro j h1 h2
    rw [bkOs_get] at h2
    cases hy:X'[j]? with
    | none=>rw [hy] at h2; cases h2
    | some y =>
     rw [hy] at h2
     simp at h2
     subst h2
     exact bkO_ok g2new (hS1.ob j g y h1 hy)
   rcases g2cases hg with ⟨j,hj,h⟩ | ⟨ho,hol,h⟩ | ⟨j,hj,ho,h⟩
   ·rcases hcx with ⟨j',hj',h'⟩ | ⟨ho',_,_⟩ | ⟨j',hj',ho',h'⟩
    ·have:=(List.getElem?_inj (List.getElem?_eq_some_iff.1 hj).1 hnd).1 (hj.trans hj'.symm)
     subst this
     exact new h h'
    ·exact absurd (List.mem_of_getElem? hj) ho'
    ·have:=hGl o (List.mem_of_getElem? hj)
     omega
   ·rcases hcx with ⟨j',hj',h'⟩ | ⟨ho',_,h'⟩ | ⟨j',hj',ho',h'⟩
    ·exact absurd (List.mem_of_getElem? hj') ho
    ·rw [pruneH_map,List.getElem?_map] at h'
     cases hy:H[o]? with
     | none=>rw [hy] at h'; cases h'
     | some y =>
      rw [hy] at h'
      simp at h'
      subst h'
      refine ObR.prune hMk hMg (fun b hb=>fr b (hS.gbo o g b h hb).1 fun i g' hi hg' e=>?_) (hS.ob o g y h hy)
      have:=hS.ijo o i g g' b h hg' hb e
      subst this
      exact ho hi
    ·omega
   ·rcases hcx with ⟨j',hj',h'⟩ | ⟨ho',hol',_⟩ | ⟨j',hj',ho',h'⟩
    ·have:=hlt o (List.mem_of_getElem? hj')
     rw [← hS.len] at this
     omega
    ·omega
    ·have:j=j':=by omega
     subst this
     exact new h h'
 have hX2:Ext (kpf kl) B.K0 B.G0 B.w0 K1 G2 w':=by
  refine hX.trans ⟨hX1.os,hX1.tape,hX1.output,hX1.size,hX1.k,fun b hb=>?_,?_,fun o g b hg hb=>?_,fun o g0 ho h0=>?_,fun b hb hn=>fr b hb fun o g _ hg=>hn o g hg⟩
  ·rcases hX1.knew b hb with h' | ⟨j0,g0,h1,h2⟩ | h'
   ·exact .inl h'
   ·obtain ⟨i,_,hi⟩:=inv h1
    exact .inr (.inl ⟨i,g0,hi,h2⟩)
   ·exact .inr (.inr h')
  ·show G.length≤(setL G ids G1).length
   rw [setL_length hGl1]; omega
  ·have up:∀ {j:Nat},G1[j]?=some g→(∃ (o0:Nat) (g0:Gh),G[o0]?=some g0∧own g0 b) ∨ w.heap.size≤b:=fun h=>(old h hb).imp (fun ⟨i,g0,_,h1,h2⟩=>⟨i,g0,h1,h2⟩) id
   rcases g2cases hg with ⟨j,_,h⟩ | ⟨_,_,h⟩ | ⟨j,_,_,h⟩
   ·exact up h
   ·exact .inl ⟨o,g,h,hb⟩
   ·exact up h
  ·exact hMg o g0 (hf2 o ho) h0
 have hRV:RelV (cx P kl n B) (pruneE fK E) H2 c' (bkV ids H.length r) a w':=by
  refine ⟨K1,G2,hX2,hS2,fun m=>by rw [get_pruneE]; exact VR.prune hMk hMg _ _ (hE m),hdf,hn,fun o ho=>?_,bkV_ok g2new hv⟩
  obtain ⟨x,hx,hkt⟩:=hkp o ho
  have hol:=(List.getElem?_eq_some_iff.1 hx).1
  by_cases hin:o ∈ ids
  ·obtain ⟨j,hj⟩:=List.getElem?_of_mem hin
   have hk:kpf (maskK ch 0 (kinds X)) j=true:=hf1 j o hj (hf2 o ho)
   obtain ⟨y',hy',hkt'⟩:=hkp1 j hk
   refine ⟨bkO ids H.length y',?_,by rw [bkO_kept]; exact hkt'⟩
   show (setL _ ids _)[o]?=_
   rw [setL_hit hnd hHl (by rw [bkOs_length]; exact hXl1) hj,bkOs_get,hy']
   rfl
  ·refine ⟨x.prune fK,?_,Ob.prune_kept hkt⟩
   show (setL _ ids _)[o]?=_
   rw [setL_old hin (by rw [pruneH_map,List.length_map]; exact hol),pruneH_map,List.getElem?_map,hx]
   rfl
 exact hK' c' r X' w' hpost hv.ok hRV

def keepC (ids cho:List Nat) (H:List Ob) (o:Nat):Bool:=keepF ids H o && !hasN cho o
def chOk (ch cho:List Nat):Nat→List Nat→Bool
 | _,[]=>true
 | j,i::ids=>(bif hasN ch j then hasN cho i else true) && chOk ch cho (j+1) ids
def freeK (kl:List Bool):List Nat→Bool
 | []=>true
 | i::l=>!kpf kl i && freeK kl l
theorem chOk_get {ch cho:List Nat}:∀ {ids:List Nat} {k j i:Nat},chOk ch cho k ids=true→ids[j]?=some i→hasN cho i=false→hasN ch (k+j)=false
 | [],_,_,_,_,h,_=>by simp at h
 | x::ids,k,0,i,h,hj,hi=>by
  simp only [chOk,Bool.and_eq_true] at h
  simp at hj
  subst hj
  have:=h.1
  cases hc:hasN ch k with
  | false=>simp
  | true=>rw [hc,cond_true,hi] at this; cases this
 | x::ids,k,j+1,i,h,hj,hi=>by
  simp only [chOk,Bool.and_eq_true] at h
  rw [show k+(j+1)=k+1+j by omega]
  exact chOk_get h.2 (by simpa using hj) hi
theorem freeK_get {kl:List Bool} {o:Nat}:∀ {l:List Nat},freeK kl l=true→kpf kl o=true→hasN l o=false
 | [],_,_=>rfl
 | x::l,h,ho=>by
  simp only [freeK,Bool.and_eq_true] at h
  simp only [hasN]
  by_cases e:o=x
  ·subst e; simp [ho] at h
  ·rw [beq_false_of_ne e,cond_false]
   exact freeK_get h.2 ho
theorem keepC_1 {ids ch cho:List Nat} {H X:List Ob} (hX:subH ids H ids=some X) (hc:chOk ch cho 0 ids=true):∀ j i:Nat,ids[j]?=some i→keepC ids cho H i=true→kpf (maskK ch 0 (kinds X)) j=true:=by
 intro j i hj h
 simp only [keepC,Bool.and_eq_true,Bool.not_eq_true'] at h
 obtain ⟨hl,hg⟩:=subH_get hX
 obtain ⟨x,hx,hr⟩:=hg j i hj
 have hk:(obAt H i).kept=true:=by
  have h1:=h.1
  have hm:i ∈ ids:=List.mem_of_getElem? hj
  simpa [keepF,hm] using h1
 rw [maskK_get,kinds_at hx (by rw [rnO_kept hr]; exact hk),chOk_get hc hj h.2]
 rfl
theorem keepC_2 {ids cho:List Nat} {H:List Ob} {kl:List Bool} (hk:kpOk (kpf kl) H) (hf:freeK kl cho=true):∀ o,kpf kl o=true→keepC ids cho H o=true:=by
 intro o ho
 obtain ⟨x,hx,hkx⟩:=hk o ho
 have:(obAt H o).kept=true:=by rw [obAt_eq hx]; exact hkx
 simp [keepC,keepF,this,freeK_get hf ho]
theorem Rg.callC {o:Oper} {l:List Oper} {f:FuncId} {av args:List Va} {X:List Ob} {ch:List Nat} {Post:Va→List Ob→Prop} (ids cho:List Nat) (hs:DoesC P f args X ch Post) (ha:Is (callArgs E o) (some (f,av))) (hp:Is (rnAs ids av) (some args)) (hXs:Is (subH ids H ids) (some X)) (hids:idsOk H.length ids=true) (hch:chOk ch cho 0 ids=true) (hfr:freeK kl cho=true) (hok:callOk n true E o)
  (cont:∀ r X',Post r X'→r.ok→RgEnd P kl n B ops K (run1 P kl n ops.toList l ⟨eput (pruneE (keepC ids cho H) E) o.dst (bkV ids H.length r),setL (pruneH (keepC ids cho H) H) ids (bkOs ids H.length X'),True⟩)):Rg P kl n B ops (o::l) E H K:=by
 obtain ⟨c,fop,caps,e1,e2,e3,e4,rfl⟩:=callArgs_spec ha
 obtain ⟨hd,hk⟩:=callOk_spec hok e1 e3
 intro hB a w Q hR hKK
 refine wpList_plain e2 fun K' hK'=>?_
 have hkp:kpOk (kpf kl) H:=by obtain ⟨_,_,_,_,_,_,_,h⟩:=hR; exact h
 exact callC_wp ids ch (keepC ids cho H) hs (keepC_1 hXs hch) (keepC_2 hkp hfr) e1 e3 hk e4 hp hXs hids hR fun c' r X' w' h1 h2 h3=>hK' _ _ (Rg.run (cont r X' h1 h2) hB _ _ _ (h3.put o.dst (dstOk_lt hd)) hKK)
end

theorem Rel.forgetC {C:Cx} {E:Env} {H:List Ob} {a:Act} {w:World} {ids:List Nat} {X:List Ob} (fK:Nat→Bool) (hX:subH ids H ids=some X) (hids:idsOk H.length ids=true) (hR:Rel C E H a w) :
  Rel C (pruneE fK E) (setL (pruneH fK H) ids (bkOs ids H.length X)) a w:=by
 obtain ⟨Kk,G,h1,h2,h3,h4,h5,h6⟩:=hR
 obtain ⟨hnd,hlt⟩:=idsOk_spec hids
 obtain ⟨hl,hg⟩:=subH_get hX
 have hpl:(pruneH fK H).length=H.length:=by rw [pruneH_map,List.length_map]
 have hM:Mn Kk Kk w.heap w.heap:=⟨fun _ h=>h,fun _ _=>rfl⟩
 have hMg:Mg fK G G:=fun _ _ _ h=>h
 have hxl:ids.length≤(bkOs ids H.length X).length:=by rw [bkOs_length]; omega
 have hlen:(setL (pruneH fK H) ids (bkOs ids H.length X)).length=H.length:=by rw [setL_length hxl,bkOs_length,hpl]; omega
 have key:∀ (o:Nat) (y:Ob),(setL (pruneH fK H) ids (bkOs ids H.length X))[o]?=some y→∃ x,H[o]?=some x∧(y=x ∨ y=x.prune fK):=by
  intro o y hy
  rcases setL_cases hnd (fun i hi=>by rw [hpl]; exact hlt i hi) hxl hy with ⟨j,hj,h⟩ | ⟨_,_,h⟩ | ⟨j,hj,_,h⟩
  ·rw [bkOs_get] at h
   obtain ⟨x,hx,hr⟩:=hg j o hj
   rw [hx] at h
   simp only [Option.map_some,bk_rnO hr,Option.some.injEq] at h
   have hol:=hlt o (List.mem_of_getElem? hj)
   rw [obAt_eq (List.getElem?_eq_getElem hol)] at h
   exact ⟨_,List.getElem?_eq_getElem hol,.inl h.symm⟩
  ·rw [pruneH_map,List.getElem?_map] at h
   cases hx:H[o]? with
   | none=>rw [hx] at h; cases h
   | some x=>rw [hx] at h; exact ⟨x,rfl,.inr (Option.some.inj h).symm⟩
  ·have:=(List.getElem?_eq_some_iff.1 h).1
   rw [bkOs_length] at this
   omega
 refine ⟨Kk,G,h1,⟨by rw [hlen]; exact h2.len,h2.kb,h2.gbo,h2.ijo,fun o g y hgo hy=>?_,h2.tb⟩,fun m=>by rw [get_pruneE]; exact VR.prune hM hMg _ _ (h3 m),h4,h5,fun o ho=>?_⟩
 ·obtain ⟨x,hx,rfl | rfl⟩:=key o y hy
  ·exact h2.ob o g _ hgo hx
  ·exact ObR.prune hM hMg (fun _ _=>rfl) (h2.ob o g _ hgo hx)
 ·obtain ⟨x,hx,hk⟩:=h6 o ho
  have hol:=(List.getElem?_eq_some_iff.1 hx).1
  obtain ⟨x',hx',h⟩:=key o _ (List.getElem?_eq_getElem (by rw [hlen]; exact hol))
  rw [hx] at hx'; cases hx'
  refine ⟨_,List.getElem?_eq_getElem (by rw [hlen]; exact hol),?_⟩
  rcases h with h | h
  ·rw [h]; exact hk
  ·rw [h]; exact Ob.prune_kept hk
section
variable {P:Program} {kl:List Bool} {n:Nat} {B:Bs} {K:Env→List Ob→Prop} {E:Env} {H:List Ob} {ops:Array Oper}
theorem Rg.callGC {o:Oper} {l:List Oper} {f:FuncId} {av args:List Va} {X Y:List Ob} {g:Bool} {v:Va} {ch:List Nat} (ids cho:List Nat) (hs:g=true→DoesC P f args X ch fun r X'=>r=v∧X'=Y) (hY:g=false→Y=X) (ha:Is (callArgsX E o) (some (f,av))) (hb:Is (guardX ops.toList E o) (some g)) (hp:Is (rnAs ids av) (some args)) (hXs:Is (subH ids H ids) (some X)) (hids:idsOk H.length ids=true) (hch:chOk ch cho 0 ids=true) (hfr:freeK kl cho=true) (hok:callOk n g E o)
  (cont:RgEnd P kl n B ops K (run1 P kl n ops.toList l ⟨eput (pruneE (keepC ids cho H) E) o.dst (wrapG o.guard g (bkV ids H.length v)),setL (pruneH (keepC ids cho H) H) ids (bkOs ids H.length Y),True⟩)):Rg P kl n B ops (o::l) E H K:=by
 unfold Is callArgsX at ha
 unfold Is guardX at hb
 split at ha
 rotate_left
 ·cases ha
 rename_i c h1
 split at ha
 rotate_left
 ·cases ha
 rename_i fop h3
 split at ha
 rotate_left
 ·cases ha
 rename_i f' caps h4
 cases ha
 obtain ⟨hd,hk⟩:=callOk_spec hok h1 h3
 have hrun:=Rg.run cont
 intro hB a w Q hR hKK
 have hkp:kpOk (kpf kl) H:=by obtain ⟨_,_,_,_,_,_,_,h⟩:=hR; exact h
 cases hg:o.guard with
 | none =>
  rw [hg] at hb
  obtain rfl:true=g:=Option.some.inj hb
  refine wpList_plain hg fun K' hK'=>?_
  rw [wrapG_none hg] at hrun
  refine callC_wp ids ch (keepC ids cho H) (hs rfl) (keepC_1 hXs hch) (keepC_2 hkp hfr) h1 h3 hk h4 hp hXs hids hR fun c' r X' w' ⟨h5,h6⟩ _ hRV=>?_
  subst h5; subst h6
  exact hK' _ _ (hrun hB _ _ _ (hRV.put o.dst (dstOk_lt hd)) hKK)
 | some gw =>
  obtain ⟨j,want⟩:=gw
  rw [hg] at hb
  have hw:=guardB_ok hR hg hb
  rw [wrapG_some hg] at hrun
  refine wpList_step fun K' hK'=>?_
  cases g with
  | true =>
   rw [if_pos hw]
   refine callC_wp ids ch (keepC ids cho H) (hs rfl) (keepC_1 hXs hch) (keepC_2 hkp hfr) h1 h3 hk h4 hp hXs hids hR fun c' r X' w' ⟨h5,h6⟩ _ hRV=>?_
   subst h5; subst h6
   exact hK' _ _ (hrun hB _ _ _ (RelV.put (v:=.cnd true _) (by
    obtain ⟨Kk,G,q1,q2,q3,q4,q5,q6,q7⟩:=hRV
    exact ⟨Kk,G,q1,q2,q3,q4,q5,q6,by simp only [VR]; exact ⟨fun _=>q7,fun e=>Bool.noConfusion e⟩⟩) o.dst (dstOk_lt hd)) hKK)
  | false =>
   rw [if_neg (by rw [hw]; simp)]
   rw [hY rfl] at hrun
   obtain ⟨Kk,G,hX,hS,hE,hdf,hn,hkp'⟩:=hR.forgetC (keepC ids cho H) hXs hids
   exact hK' _ _ (hrun hB _ _ _ (RelV.put (C:=cx P kl n B) (v:=.cnd false _) ⟨Kk,G,hX,hS,hE,hdf,hn,hkp',by simp [VR]⟩ o.dst (dstOk_lt hd)) hKK)
end
section
variable {P:Program} {kl:List Bool} {n:Nat} {B:Bs} {K:Env→List Ob→Prop} {E:Env} {H:List Ob} {ops:List Oper} {obs:List En} {l:Plan}
theorem Br.callCG {k:Nat} {L:List Nat} {f:FuncId} {av args:List Va} {X Y:List Ob} {o:Oper} {v:Va} {ch:List Nat} (ids cho:List Nat) (hs:DoesC P f args X ch fun r X'=>r=v∧X'=Y) (hk:Is ops[k]? (some o)) (ha:Is (callArgsX E o) (some (f,av))) (hb:Is (guardX ops E o) (some true)) (hp:Is (rnAs ids av) (some args)) (hXs:Is (subH ids H ids) (some X)) (hids:idsOk H.length ids=true) (hch:chOk ch cho 0 ids=true) (hfr:freeK kl cho=true) (hok:callOk n true E o)
  (hag:againAll L (some (keepC ids cho H)) (setL (pruneH (keepC ids cho H) H) ids (bkOs ids H.length Y)) obs)
  (cont:RdEnd P kl n B ops.toArray K (runD P kl n ops l ⟨obs,eput (pruneE (keepC ids cho H) E) o.dst (wrapG o.guard true (bkV ids H.length v)),setL (pruneH (keepC ids cho H) H) ids (bkOs ids H.length Y),True⟩)):Br P kl n B ops.toArray k L l obs E H K:=by
 unfold Is at *
 unfold callArgsX at ha
 split at ha
 rotate_left
 ·cases ha
 rename_i c h1
 split at ha
 rotate_left
 ·cases ha
 rename_i fop h3
 split at ha
 rotate_left
 ·cases ha
 rename_i f' caps h4
 cases ha
 obtain ⟨hd,hk1,hk2⟩:=callOk_spec hok h1 h3
 have h':=Dr.run cont
 simp only at h'
 rw [← dst_eq hk] at h'
 refine Br.eff (po:=some (keepC ids cho H)) (fun _=>?_) hag h'
 intro E' hE' a w Q K' hR hK
 have hop:=looks_op (getA hk) hE'
 rw [h1] at hop
 have hfo:rnd E fop=rnd E' fop:=hop fop (by simp [Op.operands,Call.operands,h3])
 have hag':Agree c.args.toList E E':=fun x hx=>hop x (by simp only [Op.operands,Call.operands,Array.toList_append,List.mem_append]; exact .inr hx)
 rw [Agree.opOk hfo] at hk1
 rw [Agree.allOk hag'] at hk2
 rw [Agree.opnd hfo] at h4
 rw [Agree.opnds hag'] at hp
 rw [dst_eq hk] at hK
 unfold wpOp
 simp only [getA hk]
 unfold guardX at hb
 cases hgd:o.guard with
 | none =>
  rw [hgd] at hb hK
  rw [if_pos (by simp [Region.wanted,hgd])]
  have hkp:kpOk (kpf kl) H:=by obtain ⟨_,_,_,_,_,_,_,h⟩:=hR; exact h
  refine .inl (callC_wp ids ch (keepC ids cho H) hs (keepC_1 hXs hch) (keepC_2 hkp hfr) h1 h3 ⟨hk1,hk2⟩ h4 hp hXs hids hR fun c' r X' w' ⟨hr,hX⟩ _ hRV=>?_)
  subst hr; subst hX
  exact hK _ _ (hRV.put o.dst (dstOk_lt hd))
 | some gw =>
  obtain ⟨j,want⟩:=gw
  rw [hgd] at hb hK
  have hb':guardB ops.toArray.toList E j want=some true:=by simpa using hb
  rw [← guardB_congr (getA hk) hgd hE'] at hb'
  have hw:=guardB_ok hR hgd hb'
  rw [if_pos hw]
  have hkp:kpOk (kpf kl) H:=by obtain ⟨_,_,_,_,_,_,_,h⟩:=hR; exact h
  refine .inl (callC_wp ids ch (keepC ids cho H) hs (keepC_1 hXs hch) (keepC_2 hkp hfr) h1 h3 ⟨hk1,hk2⟩ h4 hp hXs hids hR fun c' r X' w' ⟨hr,hX⟩ _ hRV=>?_)
  subst hr; subst hX
  exact hK _ _ (RelV.put (v:=.cnd true _) (by
   obtain ⟨Kk,G,q1,q2,q3,q4,q5,q6,q7⟩:=hRV
   exact ⟨Kk,G,q1,q2,q3,q4,q5,q6,by simp only [VR]; exact ⟨fun _=>q7,fun e=>Bool.noConfusion e⟩⟩) o.dst (dstOk_lt hd))
end
section
variable {P:Program} {kl:List Bool} {n:Nat} {B:Bs} {Q:Qt} {E:Env} {H:List Ob} {a:Act} {w:World}
theorem Rel.repl {i j:Nat} (hB:B.G0.length=kl.length) (hi:kpf kl i=false) (hj:kl.length≤j) (hne:i ≠ j) (hil:i < H.length) (hjl:j < H.length) (h:Rel (cx P kl n B) E H a w) :
  Rel (cx P kl n B) (pruneE (fun o=>!(o == j)) (swE i j E)) ((pruneH (fun o=>!(o == j)) (swH i j H)).set j .gone) a w:=by
 obtain ⟨K,G,hX,hS,hE,hd,hn,hk⟩:=h
 have hiG:i < G.length:=by rw [hS.len]; exact hil
 have hjG:j < G.length:=by rw [hS.len]; exact hjl
 have hjG0:B.G0.length≤j:=by rw [hB]; exact hj
 have hg:=fun o=>swL_get hiG hjG o
 have hG:∀ (o:Nat) (g:Gh),G[o]?=some g→(swL i j G)[swN i j o]?=some g:=fun o g ho=>by rw [hg,swN_swN]; exact ho
 have hH:∀ o,(swH i j H)[o]?=(H[swN i j o]?).map (swO i j):=fun o=>by rw [swH_eq hil hjl,swL_get (by simpa using hil) (by simpa using hjl),List.getElem?_map]
 have hsn:∀ o,o ≠ j→swN i j o=if o=i then j else o:=fun o ho=>by rw [swN_eq]; split <;> simp_all
 have hMg:Mg (fun o=>!(o == j)) (swL i j G) ((swL i j G).set j ⟨none,undef,[]⟩):=fun o g ho h=>by
  have:o ≠ j:=by simpa using ho
  rw [List.getElem?_set_ne (Ne.symm this)]; exact h
 have hM:Mn K K w.heap w.heap:=⟨fun _ h=>h,fun _ _=>rfl⟩
 have g2:∀ {o:Nat} {g:Gh} {b:Nat},((swL i j G).set j ⟨none,undef,[]⟩)[o]?=some g→own g b→o ≠ j∧G[swN i j o]?=some g:=by
  intro o g b h hb
  by_cases e:o=j
  ·subst e
   rw [List.getElem?_set_self (by rw [swL_length]; exact hjG)] at h
   cases h; exact (own_none hb).elim
  ·rw [List.getElem?_set_ne (Ne.symm e),hg] at h
   exact ⟨e,h⟩
 refine ⟨K,(swL i j G).set j ⟨none,undef,[]⟩,?_,?_,fun m=>?_,hd,hn,fun o ho=>?_⟩
 ·exact { hX with
   glen:=by rw [List.length_set,swL_length]; exact hX.glen
   gown:=fun o g b h1 hb=>hX.gown _ g b (g2 h1 hb).2 hb
   gsame:=fun o g0 ho h0=>by
    have hol:=(List.getElem?_eq_some_iff.1 h0).1
    have h1:o ≠ j:=Nat.ne_of_lt (Nat.lt_of_lt_of_le hol hjG0)
    have h2:o ≠ i:=fun e=>by subst e; exact absurd (hi.symm.trans ho) (by simp)
    rw [List.getElem?_set_ne (Ne.symm h1),hg,hsn o h1,if_neg h2]
    exact hX.gsame o g0 ho h0 }
 ·refine ⟨by rw [List.length_set,List.length_set,swL_length,pruneH_map,List.length_map,swH_eq hil hjl,swL_length,List.length_map]; exact hS.len,hS.kb,fun o g b h1 h2=>hS.gbo _ g b (g2 h1 h2).2 h2,fun o o' g g' b h1 h2 h3 h4=>?_,fun o g x h1 h2=>?_,hS.tb⟩
  ·have:=hS.ijo _ _ g g' b (g2 h1 h3).2 (g2 h2 h4).2 h3 h4
   rw [← swN_swN i j o,this,swN_swN]
  ·by_cases e:o=j
   ·subst e
    rw [List.getElem?_set_self (by rw [pruneH_map,List.length_map,swH_eq hil hjl,swL_length,List.length_map]; exact hjl)] at h2
    cases h2; trivial
   ·rw [List.getElem?_set_ne (Ne.symm e),hg] at h1
    rw [List.getElem?_set_ne (Ne.symm e),pruneH_map,List.getElem?_map,hH] at h2
    cases hy:H[swN i j o]? with
    | none=>rw [hy] at h2; cases h2
    | some y =>
     rw [hy] at h2
     simp only [Option.map_some,Option.some.injEq] at h2
     subst h2
     exact ObR.prune hM hMg (fun _ _=>rfl) (swO_ok hG (hS.ob _ g y h1 hy))
 ·rw [get_pruneE,swE_get]
  exact VR.prune hM hMg _ _ (swV_ok hG _ _ (hE m))
 ·obtain ⟨x,hx,hkx⟩:=hk o ho
  have hol:=kpf_lt ho
  have h1:o ≠ j:=by omega
  have h2:o ≠ i:=fun e=>by subst e; exact absurd (hi.symm.trans ho) (by simp)
  refine ⟨(swO i j x).prune (fun o=>!(o == j)),by rw [List.getElem?_set_ne (Ne.symm h1),pruneH_map,List.getElem?_map,hH,hsn o h1,if_neg h2,hx]; rfl,Ob.prune_kept ?_⟩
  cases x <;> first | exact hkx | cases hkx
theorem Wp.repl (i j:Nat) {c:Code} (hi:kpf kl i=false) (hj:Nat.ble kl.length j=true) (hne:i ≠ j) (hil:i < H.length) (hjl:j < H.length)
  (h:Wp P kl n B c Q (pruneE (fun o=>!(o == j)) (swE i j E)) ((pruneH (fun o=>!(o == j)) (swH i j H)).set j .gone)):Wp P kl n B c Q E H:=fun hB a w hR=>h hB a w (Rel.repl hB hi (Nat.le_of_ble_eq_true hj) hne hil hjl hR)
theorem Wp.regRW {id:Nat} {l:List Oper} (h:∀ K:Env→List Ob→Prop,(∀ E H,Q .normal E H→K E H)→(∀ E H E' H',Weak kl E H E' H'→K E' H'→K E H)→RgEnd P kl n B l.toArray K (run1 P kl n l l ⟨E,H,True⟩)):Wp P kl n B (.region id l.toArray false) Q E H:=by
 let K:Env→List Ob→Prop:=fun E H=>B.G0.length=kl.length→∀ a w,Rel (cx P kl n B) E H a w→∃ E' H',Q .normal E' H'∧Rel (cx P kl n B) E' H' a w
 have h1:=Wp.regionQ (id:=id) (Q:=thenQ K Q) (h K (fun E H hq _ a w hR=>⟨E,H,hq,hR⟩) (fun E H E' H' hw hk hB a w hR=>hk hB a w (Rel.cut hB hR hw)))
 intro hB a w hR
 refine wp_mono (h1 hB a w hR) ?_
 intro e a' w' ⟨E',H',hq,hR'⟩
 cases e <;> first | exact hq hB a' w' hR' | exact ⟨E',H',hq,hR'⟩
attribute [go_sem] maskK hasN keepC chOk freeK
end
end Go.Vc
/- strings.Builder's Grow: no byte of the builder changes (its inner grow). -/
set_option linter.unusedVariables false
set_option linter.unusedSectionVars false
namespace Go.Proofs
open Go.Shelf Go.RowKit
variable {P:Program} {ρ:Ren}
set_option maxHeartbeats 2000000 in
set_option maxRecDepth 1000000 in
theorem Any.grow_row (L:Lays.n241 P ρ) (X:Builder.Extra P ρ) (b n l c:Nat) (a:Option Addr) (cs:List Value) (w:World)
  (hbk:w.heap[b]?=some (.cells #[.pointer (some ⟨b,0,none⟩),.slice a l c] (ρ.t 72) (0,0)))
  (hl:cs.length=l) (h1:∀ v ∈ cs,v.oneCell'=true)
  (hsrc:l=0 ∨ ∃ g cur T fr,a=some ⟨g,0,none⟩∧w.heap[g]?=some (.cells cur T fr)∧cur.toList.take l=cs)
  (hcap:2 * c+n≤281474976710656) (hlc:l≤c) :
  Calls P (ρ.f 241) #[.pointer (some ⟨b,0,none⟩),.int .i64 n] w fun e w'=>e=.returned (.tuple #[])∧∃ xs:Array Value,w'.os=w.os∧w'.tape=w.tape∧w'.output=w.output ∧
   2 * c+n≤xs.size∧xs.size≤maxLen∧xs.toList.take l=cs∧w'.heap.size=w.heap.size+1∧(∀ i,i < w.heap.size→i ≠ b→w'.heap[i]?=w.heap[i]?) ∧
   w'.heap[w.heap.size]?=some (.cells xs (ρ.t 5) (0,0))∧w'.heap[b]?=some (.cells #[.pointer (some ⟨b,0,none⟩),.slice (some ⟨w.heap.size,0,none⟩) l xs.size] (ρ.t 72) (0,0)):=by
 obtain ⟨ys,hrun,hle,hmax⟩:=Lib.run_makeNoZero (P:=P) w.drew #[(ρ.t 3)] (ρ.t 37) (ρ.t 5) L.t37 (2 * c+n) hcap
 have hw:IntKind.i64.wrap (IntKind.i64.wrap (2 * (c:Int))+(n:Int))=((2 * c+n:Nat):Int):=by
  rw [IntKind.wrap_i64,IntKind.wrap_i64]
  omega
 have hcall:(callFunc (ρ.f 277) #[.int .i64 (IntKind.i64.wrap (IntKind.i64.wrap (2 * (c:Int))+(n:Int)))]).run P w.drew=.ok (.value (.slice (some ⟨w.drew.heap.size,0,none⟩) (2 * c+n) ys.size)) (w.drew.drew.drew.alloc (.cells ys (ρ.t 5))):=by
  rw [hw,run_callFunc_extern L.f277 (by kernel_rfl) (by kernel_rfl) (by kernel_rfl) (e:=Extern.BytealgMakeNoZero.makeNoZero #[(ρ.t 3)] #[(ρ.t 37)]) (by kernel_rfl),hrun]
  rfl
 have c1:w.drew.cell? ⟨b,1,none⟩=some (.slice a l c):=by
  have:w.drew.heap[b]?=_:=hbk
  rw [Lib.cell_of_heap this]; rfl
 have hlt:b < w.heap.size:=by
  rcases Nat.lt_or_ge b w.heap.size with h' | h'
  ·exact h'
  ·simp [Array.getElem?_eq_none h'] at hbk
 have c2:(w.alloc (.cells ys (ρ.t 5))).cell? ⟨b,1,none⟩=some (.slice a l c):=by
  have:(w.alloc (.cells ys (ρ.t 5))).heap[b]?=_:=(Lib.alloc_old w _ b hlt).trans hbk
  rw [Lib.cell_of_heap this]; rfl
 have f2:(w.alloc (.cells ys (ρ.t 5))).frozen? ⟨b,1,none⟩=false :=
  Lib.frozen_of_heap ((Lib.alloc_old w _ b hlt).trans hbk) 1
 have c3:(((w.alloc (.cells ys (ρ.t 5))).drew.drew.drew).setRow w.heap.size (cs++ys.toList.drop l).toArray).heap[b]?=some (.cells #[.pointer (some ⟨b,0,none⟩),.slice a l c] (ρ.t 72) (0,0)) :=
  (setRow_other _ _ _ _ (by omega)).trans ((Lib.alloc_old w _ b hlt).trans hbk)
 have c3':(((w.alloc (.cells ys (ρ.t 5))).drew.drew.drew).setRow w.heap.size (cs++ys.toList.drop l).toArray).cell? ⟨b,1,none⟩=some (.slice a l c):=by rw [Lib.cell_of_heap c3]; rfl
 have f3:(((w.alloc (.cells ys (ρ.t 5))).drew.drew.drew).setRow w.heap.size (cs++ys.toList.drop l).toArray).frozen? ⟨b,1,none⟩=false:=Lib.frozen_of_heap c3 1
 clear hw
 have hly:l≤ys.size:=by omega
 have hmy:ys.size≤maxLen:=hmax (by unfold maxLen; omega)
 have hcopy:∀ W:World,W.heap=(w.alloc (.cells ys (ρ.t 5))).heap→(Builtin.copy_ #[(ρ.t 37),(ρ.t 37)] (ρ.t 3) #[.slice (some ⟨w.heap.size,0,none⟩) l ys.size,.slice a l c]).run P W=.ok (goInt l) (W.setRow w.heap.size (cs++ys.toList.drop l).toArray):=by
  intro W hW
  have hg:W.heap[w.heap.size]?=some (.cells ys (ρ.t 5) (0,0)):=by rw [hW]; exact heap_alloc_new w _
  rcases hsrc with h0 | ⟨g,cur,T,fr,rfl,hgc,htk⟩
  ·have hcs:cs=[]:=List.length_eq_zero_iff.1 (by omega)
   subst h0
   subst hcs
   rw [run_copy_none W (ρ.t 37) (ρ.t 37) (ρ.t 3) (ρ.t 5) _ _ 0 ys.size 0 c L.t37 X.sizeByte rfl]
   simp only [List.nil_append,List.drop_zero,Array.toArray_toList]
   rw [setRow_self W w.heap.size ys (ρ.t 5) (0,0) hg]
   rfl
  ·have hgl:g < w.heap.size:=by
    rcases Nat.lt_or_ge g w.heap.size with h' | h'
    ·exact h'
    ·simp [Array.getElem?_eq_none h'] at hgc
   have hgW:W.heap[g]?=some (.cells cur T fr):=by rw [hW]; exact (Lib.alloc_old w _ g hgl).trans hgc
   have:=run_copy_row (P:=P) W (ρ.t 37) (ρ.t 37) (ρ.t 3) (ρ.t 5) w.heap.size 0 l ys.size ⟨g,0,none⟩ l c ys (ρ.t 5) cs L.t37 X.sizeByte hg (by rw [hl]; exact (Nat.min_self l).symm) (fun j v hj=>?_) (by omega) h1
   ·rw [this,hl]
    simp
   ·rw [show (⟨g,0,none⟩:Addr).add j=⟨g,0+j,none⟩ from by cases j <;> simp [Addr.add],cell_of_row W g (0+j) cur T fr hgW,Nat.zero_add]
    rw [← htk,List.getElem?_take] at hj
    split at hj
    ·rw [← Array.getElem?_toList]; exact hj
    ·cases hj
 have mixed:=L.mixed
 have t72:=L.t72; have a72:=L.a72; have z72:=L.z72; have v72:=L.v72; have u72:=run_underlying L.t72
 have t70:=L.t70; have a70:=L.a70; have z70:=L.z70; have v70:=L.v70; have u70:=run_underlying L.t70
 have t37:=L.t37; have a37:=L.a37; have z37:=L.z37; have v37:=L.v37; have u37:=run_underlying L.t37
 have t3:=L.t3; have a3:=L.a3; have z3:=L.z3; have v3:=L.v3; have u3:=run_underlying L.t3
 have t5:=X.t5; have a5:=X.a5; have z5:=X.z5; have v5:=X.v5; have u5:=run_underlying X.t5
 go_enter L.f241,Body.n241_ntmps ρ
 go_wp2
 go_region_o
 all_goals go_wp2
 all_goals rw [hcopy ((w.alloc (.cells ys (ρ.t 5))).drew.drew.drew) rfl]
 all_goals simp only [Result.andThen]
 all_goals rw [Oper.upon_value]
 all_goals go_wp2
 all_goals go_end0
 all_goals
  have hxl:(cs++ys.toList.drop l).toArray.size=ys.size:=by simp; omega
  have hsz:w.heap.size < (w.alloc (.cells ys (ρ.t 5))).heap.size:=by rw [World.size_alloc]; omega
  rw [setCell_eq_setRow _ b 1 _ _ _ _ c3]
  refine ⟨rfl,(cs++ys.toList.drop l).toArray,rfl,rfl,rfl,by omega,by omega,by simp [← hl],?_,fun i hi hib=>?_,?_,?_⟩
  ·simp
  ·rw [setRow_other _ _ _ _ hib,setRow_other _ _ _ _ (by omega)]
   exact heap_alloc_old w _ hi
  ·rw [setRow_other _ _ _ _ (by omega)]
   exact setRow_heap _ _ ys _ _ _ (heap_alloc_new w _)
  ·rw [setRow_heap _ _ _ _ _ _ c3,hxl]
   rfl

end Go.Proofs
/- strings.Builder's Grow: no byte of the builder changes (the whole,and as a call of the walks). -/
set_option linter.unusedVariables false
set_option linter.unusedSectionVars false
namespace Go.Proofs
open Go.Shelf Go.RowKit
variable {P:Program} {ρ:Ren}

set_option maxHeartbeats 2000000 in
set_option maxRecDepth 1000000 in
theorem Any.Grow_used (L:Lays.n165 P ρ) (X:Builder.Extra P ρ) (b n l c:Nat) (a:Option Addr) (cs:List Value) (w0 w:World)
  (h0:∀ W:World,(W=w0 ∨ W=w0.drew)→Calls P (ρ.f 240) #[.pointer (some ⟨b,0,none⟩)] W fun e w'=>e=.returned (.tuple #[])∧w'.heap=w.heap∧w'.os=w.os∧w'.tape=w.tape∧w'.output=w.output)
  (hbk:w.heap[b]?=some (.cells #[.pointer (some ⟨b,0,none⟩),.slice a l c] (ρ.t 72) (0,0)))
  (hl:cs.length=l) (h1:∀ v ∈ cs,v.oneCell'=true)
  (hsrc:l=0 ∨ ∃ g cur T fr,a=some ⟨g,0,none⟩∧w.heap[g]?=some (.cells cur T fr)∧cur.toList.take l=cs)
  (hn:n≤274877906944) (hlim:l≤274877906944) (hlc:l≤c) (hc:c≤9223372036854775807) :
  Calls P (ρ.f 165) #[.pointer (some ⟨b,0,none⟩),.int .i64 n] w0 fun e w'=>e=.returned (.tuple #[])∧w'.os=w.os∧w'.tape=w.tape∧w'.output=w.output∧(∀ i,i < w.heap.size→i ≠ b→w'.heap[i]?=w.heap[i]?) ∧
   (w'.heap.size=w.heap.size∧w'.heap[b]?=some (.cells #[.pointer (some ⟨b,0,none⟩),.slice a l c] (ρ.t 72) (0,0)) ∨
    ∃ xs:Array Value,l≤xs.size∧0 < xs.size∧xs.size≤maxLen∧xs.toList.take l=cs∧w'.heap.size=w.heap.size+1∧w'.heap[w.heap.size]?=some (.cells xs (ρ.t 5) (0,0)) ∧
     w'.heap[b]?=some (.cells #[.pointer (some ⟨b,0,none⟩),.slice (some ⟨w.heap.size,0,none⟩) l xs.size] (ρ.t 72) (0,0))):=by
 have mixed:=L.mixed
 have t72:=L.t72; have a72:=L.a72; have z72:=L.z72; have v72:=L.v72; have u72:=run_underlying L.t72
 have t70:=L.t70; have a70:=L.a70; have z70:=L.z70; have v70:=L.v70; have u70:=run_underlying L.t70
 have t37:=L.t37; have a37:=L.a37; have z37:=L.z37; have v37:=L.v37; have u37:=run_underlying L.t37
 have t3:=L.t3; have a3:=L.a3; have z3:=L.z3; have v3:=L.v3; have u3:=run_underlying L.t3
 have t9:=L.t9; have a9:=L.a9; have z9:=L.z9; have v9:=L.v9; have u9:=run_underlying L.t9
 have t4:=L.t4; have a4:=L.a4; have z4:=L.z4; have v4:=L.v4; have u4:=run_underlying L.t4
 have t164:=L.t164; have a164:=L.a164; have z164:=L.z164; have v164:=L.v164; have u164:=run_underlying L.t164
 have t5:=X.t5; have a5:=X.a5; have z5:=X.z5; have v5:=X.v5; have u5:=run_underlying X.t5
 have e240:∀ args w,(callFunc (ρ.f 240) args).run P w=.ok (.enter (ρ.f 240) args) w:=enters_of L.f240 (by kernel_rfl) rfl
 have e241:∀ args w,(callFunc (ρ.f 241) args).run P w=.ok (.enter (ρ.f 241) args) w:=enters_of L.f241 (by kernel_rfl) rfl
 go_enter L.f165,Body.n165_ntmps ρ
 go_wp2_with (go_at_fn (ρ.f 240); refine (h0 _ (by first | exact .inl rfl | exact .inr rfl)).mono ?_; rintro e w1 ⟨rfl,hh,ho,ht,hout⟩)
 have hb1:w1.heap[b]?=some (.cells #[.pointer (some ⟨b,0,none⟩),.slice a l c] (ρ.t 72) (0,0)):=by rw [hh]; exact hbk
 have c1:w1.cell? ⟨b,1,none⟩=some (.slice a l c):=by rw [Lib.cell_of_heap hb1]; rfl
 have c1':w1.drew.cell? ⟨b,1,none⟩=some (.slice a l c):=c1
 go_region_o
 have hgrow:c < l+n→∀ W:World,(W=w1.drew ∨ W=w1.drew.drew)→Calls P (ρ.f 241) #[.pointer (some ⟨b,0,none⟩),.int .i64 n] W _:=fun hlt W hW=>Any.grow_row { L with } X b n l c a cs W (by rcases hW with rfl | rfl <;> exact hb1) hl h1 (by
  rcases hsrc with h | ⟨g,cur,T,fr,h2,h3,h4⟩
  ·exact .inl h
  ·exact .inr ⟨g,cur,T,fr,h2,by rcases hW with rfl | rfl <;> exact (congrArg (fun h:Array Obj=>h[g]?) hh).trans h3,h4⟩) (by omega) hlc
 go_wp2_with (go_at_fn (ρ.f 241); refine (hgrow (by omega) _ (by first | exact .inl rfl | exact .inr rfl)).mono ?_; rintro e w2 ⟨rfl,xs,q1,q2,q3,q4,q5,q6,q7,q8,q9,q10⟩)
 ·go_end0
  have hW:(w1.drew).heap=w.heap:=hh
  refine ⟨rfl,q1.trans ho,q2.trans ht,q3.trans hout,fun i hi hib=>?_,.inr ⟨xs,by omega,by omega,q5,q6,?_,?_,?_⟩⟩
  ·rw [q8 i (by first | exact hW ▸ hi | exact (show (w1.drew.drew).heap=w.heap from hh) ▸ hi) hib]
   exact congrArg (fun h:Array Obj=>h[i]?) hh
  ·rw [q7]; exact congrArg (fun h:Array Obj=>h.size+1) hh
  ·rw [← hh]; exact q9
  ·rw [← hh]; exact q10
 ·go_end0
  exact ⟨rfl,ho,ht,hout,fun i _ _=>congrArg (fun h:Array Obj=>h[i]?) hh,.inl ⟨congrArg Array.size hh,hb1⟩⟩

theorem Any.Grow (L:Lays.n165 P ρ) (X:Builder.Extra P ρ) (b n l c:Nat) (a:Option Addr) (cs:List Value) (p:Value) (w:World)
  (hp:p=.pointer none ∨ p=.pointer (some ⟨b,0,none⟩))
  (hbk:w.heap[b]?=some (.cells #[p,.slice a l c] (ρ.t 72) (0,0)))
  (hl:cs.length=l) (h1:∀ v ∈ cs,v.oneCell'=true)
  (hsrc:l=0 ∨ ∃ g cur T fr,a=some ⟨g,0,none⟩∧g ≠ b∧w.heap[g]?=some (.cells cur T fr)∧cur.toList.take l=cs)
  (hn:n≤274877906944) (hlim:l≤274877906944) (hlc:l≤c) (hc:c≤9223372036854775807) :
  Calls P (ρ.f 165) #[.pointer (some ⟨b,0,none⟩),.int .i64 n] w fun e w'=>e=.returned (.tuple #[])∧w'.os=w.os∧w'.tape=w.tape∧w'.output=w.output∧(∀ i,i < w.heap.size→i ≠ b→w'.heap[i]?=w.heap[i]?) ∧
   (w'.heap.size=w.heap.size∧w'.heap[b]?=some (.cells #[.pointer (some ⟨b,0,none⟩),.slice a l c] (ρ.t 72) (0,0)) ∨
    ∃ xs:Array Value,l≤xs.size∧0 < xs.size∧xs.size≤maxLen∧xs.toList.take l=cs∧w'.heap.size=w.heap.size+1∧w'.heap[w.heap.size]?=some (.cells xs (ρ.t 5) (0,0)) ∧
     w'.heap[b]?=some (.cells #[.pointer (some ⟨b,0,none⟩),.slice (some ⟨w.heap.size,0,none⟩) l xs.size] (ρ.t 72) (0,0))):=by
 rcases hp with rfl | rfl
 ·have hs1:w.setCell ⟨b,0,none⟩ (.pointer (some ⟨b,0,none⟩))=w.setRow b #[.pointer (some ⟨b,0,none⟩),.slice a l c]:=by rw [setCell_eq_setRow w b 0 _ _ _ _ hbk]; rfl
  have hb1:(w.setCell ⟨b,0,none⟩ (.pointer (some ⟨b,0,none⟩))).heap[b]?=some (.cells #[.pointer (some ⟨b,0,none⟩),.slice a l c] (ρ.t 72) (0,0)):=by
   rw [hs1]; exact setRow_heap _ _ _ _ _ _ hbk
  have ho:∀ i,i ≠ b→(w.setCell ⟨b,0,none⟩ (.pointer (some ⟨b,0,none⟩))).heap[i]?=w.heap[i]?:=fun i hi=>by rw [hs1]; exact setRow_other _ _ _ _ hi
  have hsz:(w.setCell ⟨b,0,none⟩ (.pointer (some ⟨b,0,none⟩))).heap.size=w.heap.size:=by rw [hs1]; exact setRow_size _ _ _
  refine (Any.Grow_used L X b n l c a cs w (w.setCell ⟨b,0,none⟩ (.pointer (some ⟨b,0,none⟩))) ?_ hb1 hl h1 ?_ hn hlim hlc hc).mono ?_
  ·intro W hW
   have hWh:W.heap=w.heap:=by rcases hW with rfl | rfl <;> rfl
   have hWb:W.heap[b]?=some (.cells #[.pointer none,.slice a l c] (ρ.t 72) (0,0)):=by rw [hWh]; exact hbk
   refine (Any.Builder_copyCheck_fresh { L with } X.toX72 b W (by rw [Lib.cell_of_heap hWb]; rfl) (by simp [World.shape?,hWb]) (Lib.frozen_of_heap hWb 0)).mono ?_
   rintro e w' ⟨rfl,rfl⟩
   rcases hW with rfl | rfl <;> exact ⟨rfl,rfl,rfl,rfl,rfl⟩
  ·rcases hsrc with h | ⟨g,cur,T,fr,h2,h3,h4,h5⟩
   ·exact .inl h
   ·exact .inr ⟨g,cur,T,fr,h2,(ho g h3).trans h4,h5⟩
  ·rintro e w' ⟨h1,h2,h3,h4,h5,h6⟩
   rw [hsz] at h5 h6
   exact ⟨h1,h2,h3,h4,fun i hi hib=>(h5 i hi hib).trans (ho i hib),h6⟩
 ·refine (Any.Grow_used L X b n l c a cs w w ?_ hbk hl h1 ?_ hn hlim hlc hc).mono fun e w' h=>h
  ·intro W hW
   have hWh:W.heap=w.heap:=by rcases hW with rfl | rfl <;> rfl
   have hWb:W.heap[b]?=some (.cells #[.pointer (some ⟨b,0,none⟩),.slice a l c] (ρ.t 72) (0,0)):=by rw [hWh]; exact hbk
   refine (Any.Builder_copyCheck_used { L with } X.toX72 b W (by rw [Lib.cell_of_heap hWb]; rfl)).mono ?_
   rintro e w' ⟨rfl,rfl⟩
   rcases hW with rfl | rfl <;> exact ⟨rfl,rfl,rfl,rfl,rfl⟩
  ·rcases hsrc with h | ⟨g,cur,T,fr,h2,h3,h4,h5⟩
   ·exact .inl h
   ·exact .inr ⟨g,cur,T,fr,h2,h4,h5⟩
end Go.Proofs
namespace Go.Vc
open Go.Proofs Go.Shelf
variable [Tabs] {P:Program} {ρ:Ren}
theorem byteV_one (bs:List UInt8):∀ v ∈ bs.map byteV,v.oneCell'=true:=by
 intro v hv
 obtain ⟨x,_,rfl⟩:=List.mem_map.1 hv
 rfl
theorem Does.grow (L:Lays.n165 P ρ) (X:Builder.Extra P ρ) (n:Nat) (bs:List UInt8) (hn:n≤274877906944) :
  Does P (ρ.f 165) [.ptr 0 0,.p (.i .i64 n)] [.cells (ρ.t 72) [.np 0,.buf 1],.sb (ρ.t 5) bs] (fun r Y=>r=.tup []∧Y=[.cells (ρ.t 72) [.np 0,.buf 1],.sb (ρ.t 5) bs]):=by
 refine ⟨⟨_,L.f165,by kernel_rfl,by kernel_rfl⟩,fun K G w vals hS hV=>?_⟩
 simp only [VRs,VR,DR] at hV
 obtain ⟨c0,r0,rfl,⟨g0,b,hg0,hb0,rfl⟩,c1,r1,rfl,⟨rfl,hfit⟩,rfl⟩:=hV
 obtain ⟨b',cs,q1,q2,q3⟩:=hS.ob 0 g0 _ hg0 rfl
 obtain rfl:b=b':=Option.some.inj (hb0.symm.trans q1)
 simp only [VRs,VR] at q3
 obtain ⟨p,rr,rfl,hp,sv,rr',rfl,⟨g1,hg1,rfl,a,l,c,hsv⟩,rfl⟩:=q3
 have hp':p=.pointer none ∨ p=.pointer (some ⟨b,0,none⟩):=by
  rcases hp with h | ⟨g,b2,h1,h2,h3⟩
  ·exact .inl h
  ·rw [hg0] at h1; cases h1; rw [hb0] at h2; cases h2; exact .inr h3
 obtain ⟨hlim,hh⟩:=hS.ob 1 g1 _ hg1 rfl
 have hsrc:bs.length=l∧l≤c∧c≤9223372036854775807∧(l=0 ∨ ∃ g cur T fr,a=some ⟨g,0,none⟩∧g ≠ b∧w.heap[g]?=some (.cells cur T fr)∧cur.toList.take l=bs.map byteV):=by
  rcases hh with ⟨e1,rfl,_⟩ | ⟨gb,cap,cur,fr,e1,e2,e3,e4,e5,e6,e7,e8,e9⟩
  ·rw [hsv] at e1; cases e1; exact ⟨rfl,by omega,by omega,.inl rfl⟩
  ·rw [hsv] at e1; cases e1
   refine ⟨rfl,e5,by simp only [maxLen] at e7; omega,.inr ⟨gb,cur,_,fr,rfl,?_,e3,e9⟩⟩
   rintro rfl
   have:=hS.inj 0 1 g0 g1 _ hg0 hg1 hb0 e2
   omega
 obtain ⟨hl,hlc,hc,hsrc⟩:=hsrc
 have hlim':l≤274877906944:=by rw [← hl]; exact hlim
 refine (Any.Grow L X b n l c a (bs.map byteV) p w hp' (by rw [hsv] at q2; exact q2) (by simpa using hl) (byteV_one bs) hsrc hn hlim' hlc hc).mono ?_
 rintro e w' ⟨rfl,ho,ht,hout,hfr,hcase⟩
 have hl0:0 < G.length:=(List.getElem?_eq_some_iff.1 hg0).1
 have hl1:1 < G.length:=(List.getElem?_eq_some_iff.1 hg1).1
 rcases hcase with ⟨hsz,hbk⟩ | ⟨xs,x1,x2,x3,x4,hsz,x5,x6⟩
 ·have hfr':∀ i,i ≠ b→w'.heap[i]?=w.heap[i]?:=by
   intro i hi
   rcases Nat.lt_or_ge i w.heap.size with h | h
   ·exact hfr i h hi
   ·rw [Array.getElem?_eq_none h,Array.getElem?_eq_none (by omega)]
  refine ⟨.tuple #[],.tup [],_,K,G,rfl,⟨rfl,rfl⟩,Ext.modA _ hg0 hb0 ho ht hout hsz hfr',hS.modA hg0 hb0 hsz hfr' (x:=.cells (ρ.t 72) [.np 0,.buf 1]) ?_,?_,?_⟩
  ·refine ⟨b,[.pointer (some ⟨b,0,none⟩),.slice a l c],hb0,hbk,?_⟩
   simp only [VRs,VR]
   exact ⟨_,_,rfl,.inr ⟨g0,b,hg0,hb0,rfl⟩,_,_,rfl,⟨g1,hg1,hsv.symm,a,l,c,hsv⟩,rfl⟩
  ·simp only [VR,VRs]; exact ⟨[],rfl,rfl⟩
  ·exact kinds_ok _
 ·have hG0:(G.set 1 ⟨some w.heap.size,.slice (some ⟨w.heap.size,0,none⟩) l xs.size,[]⟩)[0]?=some g0:=by rw [List.getElem?_set_ne (by omega)]; exact hg0
  have hG1:(G.set 1 ⟨some w.heap.size,.slice (some ⟨w.heap.size,0,none⟩) l xs.size,[]⟩)[1]?=some ⟨some w.heap.size,.slice (some ⟨w.heap.size,0,none⟩) l xs.size,[]⟩:=List.getElem?_set_self hl1
  have hblt:=(hS.gb 0 g0 b hg0 hb0).1
  have s1:=hS.modB hg1 (w':=w.alloc (.cells xs (ρ.t 5))) (g1:=⟨some w.heap.size,.slice (some ⟨w.heap.size,0,none⟩) l xs.size,[]⟩) (x:=.sb (ρ.t 5) bs) (by rw [World.size_alloc]; omega) (fun i hi _=>heap_alloc_old w _ hi) (fun i hi=>by obtain rfl:=own_one hi; rw [World.size_alloc]; exact ⟨by omega,.inr (Nat.le_refl _)⟩) ⟨hlim,.inr ⟨w.heap.size,xs.size,xs,(0,0),by rw [hl],rfl,heap_alloc_new w _,.inl rfl,by omega,x2,x3,rfl,by rw [hl]; exact x4⟩⟩
  have e1:=Ext.modB (K:=K) (kp:=kpf (kinds [.cells (ρ.t 72) [.np 0,.buf 1],.sb (ρ.t 5) bs])) (w:=w) (w':=w.alloc (.cells xs (ρ.t 5))) hg1 (g1:=⟨some w.heap.size,.slice (some ⟨w.heap.size,0,none⟩) l xs.size,[]⟩) rfl rfl rfl rfl (by rw [World.size_alloc]; omega) (fun i hi _=>heap_alloc_old w _ hi) (fun i hi=>by obtain rfl:=own_one hi; exact .inr (Nat.le_refl _))
  have hsz2:w'.heap.size=(w.alloc (.cells xs (ρ.t 5))).heap.size:=by rw [World.size_alloc,hsz]
  have hfr2:∀ i,i ≠ b→w'.heap[i]?=(w.alloc (.cells xs (ρ.t 5))).heap[i]?:=by
   intro i hi
   rcases Nat.lt_trichotomy i w.heap.size with h | h | h
   ·rw [heap_alloc_old w _ h]; exact hfr i h hi
   ·subst h; rw [heap_alloc_new w _]; exact x5
   ·rw [Array.getElem?_eq_none (by omega),Array.getElem?_eq_none (by rw [World.size_alloc]; omega)]
  have s2:=s1.modA hG0 hb0 (w':=w') hsz2 hfr2 (x:=.cells (ρ.t 72) [.np 0,.buf 1]) (by
   refine ⟨b,[.pointer (some ⟨b,0,none⟩),.slice (some ⟨w.heap.size,0,none⟩) l xs.size],hb0,x6,?_⟩
   simp only [VRs,VR]
   exact ⟨_,_,rfl,.inr ⟨g0,b,hG0,hb0,rfl⟩,_,_,rfl,⟨_,hG1,rfl,_,_,_,rfl⟩,rfl⟩)
  refine ⟨.tuple #[],.tup [],_,K,_,rfl,⟨rfl,rfl⟩,e1.trans (Ext.modA _ hG0 hb0 ho ht hout hsz2 hfr2),s2,?_,kinds_ok _⟩
  simp only [VR,VRs]; exact ⟨[],rfl,rfl⟩
end Go.Vc
