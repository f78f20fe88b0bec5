/- An abstract machine for the model: what it computes on, its operations, the walk of a body, and that all of it is true of the model (part 3). -/
import Derived.Test.YthmjpfooffbhhaaGreatDoorVc2
import Derived.Lib.AppendIntMem
import Derived.Lib.AtoiBound
import Derived.Lib.ItoaLen
import Derived.Lib.SliceRun
import Derived.Shelf.SlIter.Nil
import Derived.Shelf.SortM.Plain
import Derived.Shelf.SortM.SortNone
import Derived.Shelf.Strconv.Atoi
import Derived.Shelf.Strconv.AtoiErr
import Derived.Shelf.Strconv.Itoa3
import Derived.Shelf.Strings.SlTrimAscii
/- Builders: calls that hand back what they are given; a pointer that is nil or an object's. -/
set_option linter.unusedSectionVars false
namespace Go.Vc
variable [Tabs]

def NvI (P : Program) (f : FuncId) : Prop := ∀ (c : Value) (w : World), (callFunc f #[c]).run P w = .ok (.value c) w
theorem NvI.noEscape {P : Program} {f : FuncId} {fn : Func} (hf : P.funcs[f]? = some fn) (hname : (fn.name == "runtime.NumGoroutine") = false) (hb : fn.body.isNone = true) (hn : Extern.findNext fn = none) (he : Extern.find fn = some Extern.AbiNoEscape.same) : NvI P f := by
 intro c w
 rw [run_callFunc_extern hf hname hb hn he, Lib.run_noEscape]
 rfl

section
variable {P : Program} {kl : List Bool} {n : Nat} {B : Bs} {ops : Array Oper} {K : Env → List Ob → Prop} {E : Env} {H : List Ob}
theorem nativeI_wp {o : Oper} {c : Call} {fop : Operand} {f : FuncId} {caps : List Va} {v : Va} (hs : NvI P f) (ho : o.op = .call c) (hc : c.callee = .value fop)
  (hok : opOk true E fop ∧ allOk true E c.args.toList) (hf : opnd E fop = .fn f caps) (hv : opnds E c.args.toList ++ caps = [v]) {a : Act} {w : World} {Q : Exit → Act → World → Prop} {K' : Act → World → Prop}
  (hR : Rel (cx P kl n B) E H a w) (hK : ∀ c', RelV (cx P kl n B) E H c' v a w → K' (a.put o.dst c') w) : o.wp P a w K' Q := by
 obtain ⟨Kk, G, hX, hS, hE, hdf, hn, hkp⟩ := hR
 have hvf := opnd_ok hE rfl fop hok.1
 rw [hf] at hvf
 simp only [VR] at hvf
 obtain ⟨cs, hcs, hcv⟩ := hvf
 have hargs := opnds_ok hE rfl c.args.toList hok.2
 have hall := hargs.append hcv
 rw [hv] at hall
 simp only [VRs] at hall
 obtain ⟨c', cs', hall1, hall2, rfl⟩ := hall
 unfold Oper.wp
 rw [native_run ho hc hcs, hall1, hs c' w]
 simp only [Oper.upon]
 exact hK c' ⟨Kk, G, hX, hS, hE, hdf, hn, hkp, hall2⟩
theorem Rg.callI {o : Oper} {l : List Oper} {f : FuncId} {v : Va} {g : Bool} (hs : NvI P f) (ha : Is (callArgsX E o) (some (f, [v]))) (hb : Is (guardX ops.toList E o) (some g)) (hok : callOk n g E o)
  (cont : RgEnd P kl n B ops K (run1 P kl n ops.toList l ⟨eput E o.dst (wrapG o.guard g v), H, True⟩)) : Rg P kl n B ops (o :: l) E H K := by
 unfold Is callArgsX at ha
 unfold Is guardX at hb
 split at ha
 rotate_left
 ·cases ha
 rename_i c h1
 split at ha
 rotate_left
 ·cases ha
 rename_i fop h3
 split at ha
 rotate_left
 ·cases ha
 rename_i f' caps h4
 have ha' := Option.some.inj ha
 obtain rfl : f' = f := congrArg Prod.fst ha'
 have hv : opnds E c.args.toList ++ caps = [v] := congrArg Prod.snd ha'
 obtain ⟨hd, hk⟩ := callOk_spec hok h1 h3
 cases hg : o.guard with
 | none =>
  rw [hg] at hb
  obtain rfl : true = g := Option.some.inj hb
  intro hB a w Q hR hK
  refine wpList_plain hg fun K' hK' => ?_
  refine nativeI_wp hs h1 h3 hk h4 hv hR fun c' hRV => ?_
  have c1 := cont
  rw [wrapG_none hg] at c1
  exact hK' _ _ (Rg.run c1 hB _ _ _ (hRV.put o.dst (dstOk_lt hd)) hK)
 | some gw =>
  obtain ⟨j, want⟩ := gw
  rw [hg] at hb
  intro hB a w Q hR hK
  have hw := guardB_ok hR hg hb
  refine wpList_step fun K' hK' => ?_
  cases g with
  | true =>
   rw [if_pos hw]
   refine nativeI_wp hs h1 h3 hk h4 hv hR fun c' hRV => ?_
   have c1 := cont
   rw [wrapG_some hg] at c1
   have hRV : RelV (cx P kl n B) E H c' (.cnd true v) a w := by
    obtain ⟨Kk, G, hX, hS, hE, hdf, hn, hkp, hv⟩ := hRV
    exact ⟨Kk, G, hX, hS, hE, hdf, hn, hkp, by simp only [VR]; exact ⟨fun _ => hv, fun e => Bool.noConfusion e⟩⟩
   exact hK' _ _ (Rg.run c1 hB _ _ _ (hRV.put o.dst (dstOk_lt hd)) hK)
  | false =>
   rw [if_neg (by rw [hw]; simp)]
   obtain ⟨Kk, G, hX, hS, hE, hdf, hn, hkp⟩ := hR
   have hRV : RelV (cx P kl n B) E H undef (.cnd false v) a w := ⟨Kk, G, hX, hS, hE, hdf, hn, hkp, by simp [VR]⟩
   have c1 := cont
   rw [wrapG_some hg] at c1
   exact hK' _ _ (Rg.run c1 hB _ _ _ (hRV.put o.dst (dstOk_lt hd)) hK)
end

theorem callG_elim2 {Z A : Type} {z : Z} {g : Bool} {a : Option A} {d : A} {k : A → Option Z} (h : callG g a d k = some z) : ∃ x, (g = true → a = some x) ∧ (g = false → x = d) ∧ k x = some z := by
 cases g with
 | true => obtain ⟨x, h1, h2⟩ := call_elim h; exact ⟨x, fun _ => h1, fun e => Bool.noConfusion e, h2⟩
 | false => exact ⟨d, fun e => Bool.noConfusion e, fun _ => rfl, h⟩
theorem Rel.forget {C : Cx} {E : Env} {H : List Ob} {a : Act} {w : World} {ids : List Nat} {X : List Ob} (hX : subH ids H ids = some X) (hids : idsOk H.length ids = true) (hR : Rel C E H a w) :
  Rel C (pruneE (keepF ids H) E) (setL (pruneH (keepF ids H) H) ids (bkOs ids H.length X)) a w := by
 obtain ⟨Kk, G, h1, h2, h3, h4, h5, h6⟩ := hR
 obtain ⟨hnd, hlt⟩ := idsOk_spec hids
 obtain ⟨hl, hg⟩ := subH_get hX
 have hpl : (pruneH (keepF ids H) H).length = H.length := by rw [pruneH_map, List.length_map]
 have hM : Mn Kk Kk w.heap w.heap := ⟨fun _ h => h, fun _ _ => rfl⟩
 have hMg : Mg (keepF ids H) G G := fun _ _ _ h => h
 have hxl : ids.length ≤ (bkOs ids H.length X).length := by rw [bkOs_length]; omega
 have hlen : (setL (pruneH (keepF ids H) H) ids (bkOs ids H.length X)).length = H.length := by rw [setL_length hxl, bkOs_length, hpl]; omega
 have key : ∀ (o : Nat) (y : Ob), (setL (pruneH (keepF ids H) H) ids (bkOs ids H.length X))[o]? = some y → ∃ x, H[o]? = some x ∧ (y = x ∨ y = x.prune (keepF ids H)) := by
  intro o y hy
  rcases setL_cases hnd (fun i hi => by rw [hpl]; exact hlt i hi) hxl hy with ⟨j, hj, h⟩ | ⟨_, _, h⟩ | ⟨j, hj, _, h⟩
  ·rw [bkOs_get] at h
   obtain ⟨x, hx, hr⟩ := hg j o hj
   rw [hx] at h
   simp only [Option.map_some, bk_rnO hr, Option.some.injEq] at h
   have hol := hlt o (List.mem_of_getElem? hj)
   rw [obAt_eq (List.getElem?_eq_getElem hol)] at h
   exact ⟨_, List.getElem?_eq_getElem hol, .inl h.symm⟩
  ·rw [pruneH_map, List.getElem?_map] at h
   cases hx : H[o]? with
   | none => rw [hx] at h; cases h
   | some x => rw [hx] at h; exact ⟨x, rfl, .inr (Option.some.inj h).symm⟩
  ·have := (List.getElem?_eq_some_iff.1 h).1
   rw [bkOs_length] at this
   omega
 refine ⟨Kk, G, h1, ⟨by rw [hlen]; exact h2.len, h2.kb, h2.gb, h2.inj, fun o g y hgo hy => ?_, h2.tb⟩, fun m => by rw [get_pruneE]; exact VR.prune hM hMg _ _ (h3 m), h4, h5, fun o ho => ?_⟩
 ·obtain ⟨x, hx, rfl | rfl⟩ := key o y hy
  ·exact h2.ob o g _ hgo hx
  ·exact ObR.prune hM hMg (fun _ _ => rfl) (h2.ob o g _ hgo hx)
 ·obtain ⟨x, hx, hk⟩ := h6 o ho
  have hol := (List.getElem?_eq_some_iff.1 hx).1
  obtain ⟨x', hx', h⟩ := key o _ (List.getElem?_eq_getElem (by rw [hlen]; exact hol))
  rw [hx] at hx'; cases hx'
  refine ⟨_, List.getElem?_eq_getElem (by rw [hlen]; exact hol), ?_⟩
  rcases h with h | h
  ·rw [h]; exact hk
  ·rw [h]; cases x <;> first | rfl | cases hk
section
variable {P : Program} {kl : List Bool} {n : Nat} {B : Bs} {ops : Array Oper} {K : Env → List Ob → Prop} {E : Env} {H : List Ob}
theorem Rg.callGO {o : Oper} {l : List Oper} {f : FuncId} {av args : List Va} {X Y : List Ob} {g : Bool} {v : Va} (ids : List Nat) (hs : g = true → Does P f args X fun r X' => r = v ∧ X' = Y) (hY : g = false → Y = X) (ha : Is (callArgsX E o) (some (f, av))) (hb : Is (guardX ops.toList E o) (some g)) (hp : Is (rnAs ids av) (some args)) (hXs : Is (subH ids H ids) (some X)) (hids : idsOk H.length ids = true) (hok : callOk n g E o)
  (cont : RgEnd P kl n B ops K (run1 P kl n ops.toList l ⟨eput (pruneE (keepF ids H) E) o.dst (wrapG o.guard g (bkV ids H.length v)), setL (pruneH (keepF ids H) H) ids (bkOs ids H.length Y), True⟩)) : Rg P kl n B ops (o :: l) E H K := by
 unfold Is callArgsX at ha
 unfold Is guardX at hb
 split at ha
 rotate_left
 ·cases ha
 rename_i c h1
 split at ha
 rotate_left
 ·cases ha
 rename_i fop h3
 split at ha
 rotate_left
 ·cases ha
 rename_i f' caps h4
 cases ha
 obtain ⟨hd, hk⟩ := callOk_spec hok h1 h3
 have hrun := Rg.run cont
 intro hB a w Q hR hKK
 cases hg : o.guard with
 | none =>
  rw [hg] at hb
  obtain rfl : true = g := Option.some.inj hb
  refine wpList_plain hg fun K' hK' => ?_
  rw [wrapG_none hg] at hrun
  refine callO_wp ids (hs rfl) h1 h3 hk h4 hp hXs hids hR fun c' r X' w' ⟨h5, h6⟩ _ hRV => ?_
  subst h5; subst h6
  exact hK' _ _ (hrun hB _ _ _ (hRV.put o.dst (dstOk_lt hd)) hKK)
 | some gw =>
  obtain ⟨j, want⟩ := gw
  rw [hg] at hb
  have hw := guardB_ok hR hg hb
  rw [wrapG_some hg] at hrun
  refine wpList_step fun K' hK' => ?_
  cases g with
  | true =>
   rw [if_pos hw]
   refine callO_wp ids (hs rfl) h1 h3 hk h4 hp hXs hids hR fun c' r X' w' ⟨h5, h6⟩ _ hRV => ?_
   subst h5; subst h6
   exact hK' _ _ (hrun hB _ _ _ (RelV.put (v := .cnd true _) (by
    obtain ⟨Kk, G, q1, q2, q3, q4, q5, q6, q7⟩ := hRV
    exact ⟨Kk, G, q1, q2, q3, q4, q5, q6, by simp only [VR]; exact ⟨fun _ => q7, fun e => Bool.noConfusion e⟩⟩) o.dst (dstOk_lt hd)) hKK)
  | false =>
   rw [if_neg (by rw [hw]; simp)]
   rw [hY rfl] at hrun
   obtain ⟨Kk, G, hX, hS, hE, hdf, hn, hkp'⟩ := hR.forget hXs hids
   exact hK' _ _ (hrun hB _ _ _ (RelV.put (C := cx P kl n B) (v := .cnd false _) ⟨Kk, G, hX, hS, hE, hdf, hn, hkp', by simp [VR]⟩ o.dst (dstOk_lt hd)) hKK)
end

def restKept (s : Nat) (H : List Ob) : List Nat → Bool
 | [] => true
 | i :: ids => ((obAt H i).kept || decide (i = s)) && restKept s H ids
def oneStale (s : Nat) (H : List Ob) (ids : List Nat) : Bool := ids.contains s && !(obAt H s).kept && restKept s H ids
theorem keepF_stale {s : Nat} {H : List Ob} {ids : List Nat} (h : oneStale s H ids = true) : keepF ids H = (· != s) := by
 simp only [oneStale, Bool.and_eq_true] at h
 obtain ⟨⟨h1, h2⟩, h3⟩ := h
 have key : ∀ (l : List Nat) (o : Nat), restKept s H l = true → o ∈ l → o ≠ s → (obAt H o).kept = true := by
  intro l
  induction l with
  | nil => intro o _ ho; cases ho
  | cons i l ih =>
   intro o hr ho hne
   simp only [restKept, Bool.and_eq_true, Bool.or_eq_true, decide_eq_true_eq] at hr
   rcases List.mem_cons.1 ho with rfl | ho
   ·rcases hr.1 with h | h
    ·exact h
    ·exact absurd h hne
   ·exact ih o hr.2 ho hne
 funext o
 simp only [keepF]
 by_cases ho : o = s
 ·subst ho
  have hk : (obAt H o).kept = false := by simpa using h2
  rw [h1, hk]; simp
 ·by_cases hm : o ∈ ids
  ·rw [key ids o h3 hm ho]; simp [ho]
  ·have : ids.contains o = false := by simpa using hm
   rw [this]; simp [ho]
section
variable {P : Program} {kl : List Bool} {n : Nat} {B : Bs} {ops : List Oper} {K : Env → List Ob → Prop} {l : Plan} {obs : List En} {E : Env} {H : List Ob}
theorem Br.callS {k : Nat} {L : List Nat} {f : FuncId} {av args : List Va} {X Y : List Ob} {o : Oper} {v : Va} (s : Nat) (ids : List Nat) (hs : Does P f args X fun r X' => r = v ∧ X' = Y) (hk : Is ops[k]? (some o)) (hg : Is o.guard none) (ha : Is (callArgsX E o) (some (f, av))) (hp : Is (rnAs ids av) (some args)) (hXs : Is (subH ids H ids) (some X)) (hids : idsOk H.length ids = true) (hkp : oneStale s H ids = true) (hok : callOk n true E o)
  (hag : againAll L (some s) (setL (pruneH (· != s) H) ids (bkOs ids H.length Y)) obs)
  (cont : RdEnd P kl n B ops.toArray K (runD P kl n ops l ⟨obs, eput (pruneE (· != s) E) o.dst (bkV ids H.length v), setL (pruneH (· != s) H) ids (bkOs ids H.length Y), True⟩)) : Br P kl n B ops.toArray k L l obs E H K := by
 unfold Is at *
 unfold callArgsX at ha
 split at ha
 rotate_left
 ·cases ha
 rename_i c h1
 split at ha
 rotate_left
 ·cases ha
 rename_i fop h3
 split at ha
 rotate_left
 ·cases ha
 rename_i f' caps h4
 cases ha
 obtain ⟨hd, hk1, hk2⟩ := callOk_spec hok h1 h3
 have h' := Dr.run cont
 simp only at h'
 rw [← dst_eq hk] at h'
 refine Br.eff (po := some s) (fun _ => ?_) hag h'
 intro E' hE' a w Q K' hR hK
 have hop := looks_op (getA hk) hE'
 rw [h1] at hop
 have hfo : rnd E fop = rnd E' fop := hop fop (by simp [Op.operands, Call.operands, h3])
 have hag' : Agree c.args.toList E E' := fun x hx => hop x (by simp only [Op.operands, Call.operands, Array.toList_append, List.mem_append]; exact .inr hx)
 rw [Agree.opOk hfo] at hk1
 rw [Agree.allOk hag'] at hk2
 rw [Agree.opnd hfo] at h4
 rw [Agree.opnds hag'] at hp
 rw [dst_eq hk] at hK
 unfold wpOp
 simp only [getA hk]
 rw [if_pos (by simp [Region.wanted, hg])]
 refine .inl (callO_wp ids hs h1 h3 ⟨hk1, hk2⟩ h4 hp hXs hids hR fun c' r X' w' ⟨hr, hX⟩ _ hRV => ?_)
 subst hr; subst hX
 rw [keepF_stale hkp] at hRV
 exact hK _ _ (hRV.put o.dst (dstOk_lt hd))
end
attribute [go_sem] restKept oneStale

theorem unB_append : ∀ a b : List (List Dt), unB (a ++ b) = unB a ++ unB b
 | [], b => rfl
 | [] :: a, b => by simp only [List.cons_append, unB, unB_append a b]
 | [.i _ n] :: a, b => by simp only [List.cons_append, unB, unB_append a b]
 | [.b _] :: a, b => by simp only [List.cons_append, unB, unB_append a b]
 | [.s _] :: a, b => by simp only [List.cons_append, unB, unB_append a b]
 | [.l _] :: a, b => by simp only [List.cons_append, unB, unB_append a b]
 | (_ :: _ :: _) :: a, b => by simp only [List.cons_append, unB, unB_append a b]
theorem allB_append : ∀ a b : List (List Dt), allB (a ++ b) = (allB a ∧ allB b)
 | [], b => by simp [allB]
 | [] :: a, b => by simp [allB]
 | [.i _ n] :: a, b => by simp [allB, allB_append a b, and_assoc]
 | [.b _] :: a, b => by simp [allB]
 | [.s _] :: a, b => by simp [allB]
 | [.l _] :: a, b => by simp [allB]
 | (_ :: _ :: _) :: a, b => by simp [allB]
theorem strOf_append (a b : List Int) : strOf (a ++ b) = strOf a ++ strOf b := by simp only [strOf, List.map_append]
theorem strOf_nil : strOf [] = [] := rfl
theorem strOf_cons (n : Int) (l : List Int) : strOf (n :: l) = UInt8.ofNat n.toNat :: strOf l := rfl
theorem strOf_bytesOf (s : Str) : strOf (bytesOf s) = s := by
 simp only [strOf, bytesOf, List.map_map]
 refine Eq.trans (List.map_congr_left fun b _ => ?_) (List.map_id _)
 simp
theorem bytesOf_length (s : Str) : (bytesOf s).length = s.length := by simp only [bytesOf, List.length_map]
attribute [go_sem] unB_append allB_append allB strOf_append strOf_nil strOf_cons unB strOf_bytesOf bytesOf_length
theorem sd {p : Prop} (h : p := by (repeat' apply And.intro) <;> first | assumption | omega | (intros; omega) | (intro hg; simp only [Bool.and_eq_true, Bool.or_eq_true, Bool.not_eq_true', decide_eq_true_eq, decide_eq_false_iff_not] at hg; omega) | (simp only [Bool.and_eq_true, Bool.or_eq_true, Bool.not_eq_true', Bool.and_eq_false_iff, Bool.or_eq_false_iff, Bool.not_eq_false', decide_eq_true_eq, decide_eq_false_iff_not]; omega) | (intros; simp only [*, Bool.not_false, Bool.not_true, Bool.and_self, Bool.or_self, Bool.and_true, Bool.true_and, Bool.and_false, Bool.or_true, Bool.or_false]; done) | (simp_all; done) | (simp_all <;> intros <;> omega) | grind) : p := h

theorem St.cell {K : Nat → Prop} {G : List Gh} {H : List Ob} {w : World} (hS : St K G H w) {o off : Nat} {T : TypeId} {vs : List Va} {v' : Va} (ho : H[o]? = some (.cells T vs)) (h : ∀ c v, vs[off]? = some v → VR K w.heap G c v → VR K w.heap G c v') :
  St K G (H.set o (.cells T (vs.set off v'))) w := by
 have hol := (List.getElem?_eq_some_iff.1 ho).1
 refine ⟨by simpa using hS.len, hS.kb, hS.gb, hS.inj, fun i g x hg hx => ?_, hS.tb⟩
 by_cases e : i = o
 ·subst e
  rw [List.getElem?_set_self hol] at hx
  cases hx
  obtain ⟨b, cs, r1, r2, r3⟩ := hS.ob i g _ hg ho
  refine ⟨b, cs, r1, r2, ?_⟩
  cases hv : vs[off]? with
  | none => rwa [List.set_eq_of_length_le (by rw [List.getElem?_eq_none_iff] at hv; exact hv)]
  | some v =>
   obtain ⟨c0, hc0, hv0⟩ := r3.get off _ hv
   have := r3.set (h _ _ hv hv0) off
   rwa [show cs.set off c0 = cs by
    apply List.ext_getElem?
    intro j
    by_cases hj : off = j
    ·subst hj; rw [List.getElem?_set_self (List.getElem?_eq_some_iff.1 hc0).1, hc0]
    ·rw [List.getElem?_set_ne hj]] at this
 ·rw [List.getElem?_set_ne (Ne.symm e)] at hx
  exact hS.ob i g x hg hx
theorem Does.np {P : Program} {f : FuncId} {args : List Va} {T : TypeId} {vs vs' : List Va} {X Y : List Ob} {v : Va}
  (h1 : Does P f args (.cells T (.nil :: vs) :: X) fun r Z => r = v ∧ Z = .cells T (.ptr 0 0 :: vs') :: Y)
  (h2 : Does P f args (.cells T (.ptr 0 0 :: vs) :: X) fun r Z => r = v ∧ Z = .cells T (.ptr 0 0 :: vs') :: Y) :
  Does P f args (.cells T (.np 0 :: vs) :: X) fun r Z => r = v ∧ Z = .cells T (.np 0 :: vs') :: Y := by
 refine ⟨h1.1, fun K G w vals hS hv => ?_⟩
 have fin : ∀ {e : Ending} {w' : World}, (∃ c r X' K' G', e = .returned c ∧ (r = v ∧ X' = .cells T (.ptr 0 0 :: vs') :: Y) ∧ Ext (kpf (true :: kinds X)) K G w K' G' w' ∧ St K' G' X' w' ∧ VR K' w'.heap G' c r ∧ kpOk (kpf (true :: kinds X)) X') →
   ∃ c r X' K' G', e = .returned c ∧ (r = v ∧ X' = .cells T (.np 0 :: vs') :: Y) ∧ Ext (kpf (true :: kinds X)) K G w K' G' w' ∧ St K' G' X' w' ∧ VR K' w'.heap G' c r ∧ kpOk (kpf (true :: kinds X)) X' := by
  rintro e w' ⟨c, r, X', K', G', e1, ⟨e2, rfl⟩, e3, e4, e5, e6⟩
  refine ⟨c, r, _, K', G', e1, ⟨e2, rfl⟩, e3, ?_, e5, fun i hi => ?_⟩
  ·have := e4.cell (o := 0) (off := 0) (v' := .np 0) rfl (fun c v hv hc => by cases hv; simp only [VR] at *; exact .inr hc)
   simpa using this
  ·obtain ⟨x, hx, hk⟩ := e6 i hi
   cases i with
   | zero => exact ⟨_, rfl, rfl⟩
   | succ i => exact ⟨x, by simpa using hx, hk⟩
 -- the address
 have hlen := hS.len
 have h0 : ∃ g, G[0]? = some g := by
  have : 0 < G.length := by rw [hlen]; simp
  exact ⟨_, List.getElem?_eq_getElem this⟩
 obtain ⟨g, hg⟩ := h0
 obtain ⟨b, cs, r1, r2, r3⟩ := hS.ob 0 g _ hg rfl
 simp only [VRs] at r3
 obtain ⟨c0, cs0, rfl, hc0, hcs0⟩ := r3
 have key : ∀ v0, VR K w.heap G c0 v0 → St K G (.cells T (v0 :: vs) :: X) w := by
  intro v0 hv0
  refine ⟨by simpa using hlen, hS.kb, hS.gb, hS.inj, fun i g' x hg' hx => ?_, hS.tb⟩
  cases i with
  | zero =>
   obtain rfl : g = g' := Option.some.inj (hg.symm.trans hg')
   cases hx
   exact ⟨b, c0 :: cs0, r1, r2, by simp only [VRs]; exact ⟨c0, cs0, rfl, hv0, hcs0⟩⟩
  | succ i => exact hS.ob (i + 1) g' x hg' (by simpa using hx)
 simp only [VR] at hc0
 rcases hc0 with hc0 | hc0
 ·exact (h1.2 K G w vals (key .nil (by simp only [VR]; exact hc0)) hv).mono fun e w' hh => fin hh
 ·exact (h2.2 K G w vals (key (.ptr 0 0) (by simp only [VR]; exact hc0)) hv).mono fun e w' hh => fin hh
end Go.Vc
/- Operations whose answer the model leaves open: how much a slice holds. The walk goes on with whatever it is. -/
set_option linter.unusedSectionVars false
namespace Go.Vc
variable [Tabs]

section
variable {α β : Type}
open Classical in
noncomputable def anyOf (p : α → Prop) (k : α → Option β) : Option β := if h : ∃ z, ∀ x, p x → k x = some z then some h.choose else none
omit [Tabs] in
theorem anyOf_elim {p : α → Prop} {k : α → Option β} {z : β} (h : anyOf p k = some z) : ∀ x, p x → k x = some z := by
 unfold anyOf at h
 split at h
 ·rename_i hh
  cases h
  exact hh.choose_spec
 ·cases h
omit [Tabs] in
theorem anyOf_intro {p : α → Prop} {k : α → Option β} {z : β} (h0 : ∃ x, p x) (h : ∀ x, p x → k x = some z) : anyOf p k = some z := by
 have hh : ∃ z, ∀ x, p x → k x = some z := ⟨z, h⟩
 unfold anyOf
 rw [dif_pos hh]
 obtain ⟨x, hx⟩ := h0
 have h1 := hh.choose_spec x hx
 rw [h x hx] at h1
 exact h1.symm
end

section
variable {P : Program} {kl : List Bool} {n : Nat} {B : Bs} {ops : Array Oper} {K : Env → List Ob → Prop} {E : Env} {H : List Ob}
theorem Rg.any {o : Oper} {l : List Oper} (hg : o.guard = none) (hd : dstOk n o.dst) {I : Va → List Ob → Prop}
  (hrun : ∀ a w, Rel (cx P kl n B) E H a w → ∃ c w' v H', (execOp a.eval o).run P w = .ok (.value c) w' ∧ I v H' ∧ RelV (cx P kl n B) E H' c v a w')
  (cont : ∀ v H', I v H' → RgEnd P kl n B ops K (run1 P kl n ops.toList l ⟨eput E o.dst v, H', True⟩)) : Rg P kl n B ops (o :: l) E H K := by
 intro hB a w Q hR hK
 refine wpList_plain hg fun K' hK' => ?_
 obtain ⟨c, w', v, H', h1, h2, h3⟩ := hrun a w hR
 unfold Oper.wp
 rw [h1]
 simp only [Oper.upon]
 exact hK' _ _ (Rg.run (cont v H' h2) hB _ _ _ (h3.put o.dst (dstOk_lt hd)) hK)

theorem Wp.capO {Q : Qt} {c : Code} (i j o : Nat) {T : TypeId} {vs : List Va} (hi : Is H[i]? (some (.cells T vs))) (hj : Is vs[j]? (some (.buf o))) {m : Nat} (hm : Is ((rowsB H o).map List.length) (some m))
  (hc : ∀ cp : Nat, m ≤ cp → cp ≤ 9223372036854775807 → Wp P kl n B c Q E (H.set i (.cells T (vs.set j (.bufc o cp))))) : Wp P kl n B c Q E H := by
 unfold Is at hi hj hm
 intro hB a w hR
 have hR' := hR
 obtain ⟨Kk, G, r1, hS, r3, r4, r5, r6⟩ := hR
 cases hrb : rowsB H o with
 | none => rw [hrb] at hm; cases hm
 | some rows =>
  rw [hrb] at hm
  have hm' : rows.length = m := Option.some.inj hm
  obtain ⟨g, hg, hob⟩ := hS.ghost hi
  obtain ⟨b, cs, q1, q2, q3⟩ := hob
  obtain ⟨c0, _, hv0⟩ := q3.get j _ hj
  simp only [VR] at hv0
  obtain ⟨go, hgo, rfl, a0, n0, cp0, hsv⟩ := hv0
  have key : m ≤ cp0 ∧ cp0 ≤ maxLen := by
   unfold rowsB at hrb
   split at hrb
   ·rename_i T' bs ho
    cases hrb
    obtain ⟨hlim, hh⟩ := hS.ob _ go _ hgo (obAt_some ho (by simp))
    have hbl : (bR bs).length = bs.length := by simp [bR]
    rcases hh with ⟨h1, rfl, _⟩ | ⟨b, cap, cur, fr, hsv2, hgb, hb, hfr, h4, h5, h6, h7, h8⟩
    ·rw [h1] at hsv; cases hsv; simp [bR] at hm'; subst hm'; simp
    ·rw [hsv2] at hsv; cases hsv; omega
   ·obtain ⟨⟨T', sz, rows', fx⟩, ho, hx⟩ := Option.map_eq_some_iff.1 hrb
    cases hx
    simp only at hm'
    obtain ⟨hlim, xs, hxs, hh⟩ := hS.bufOb ho hgo
    rcases hh with ⟨⟨a, h1⟩, rfl, _⟩ | ⟨b, cap, cur, fr, hsv2, hgb, hb, hfr, h4, h5, h6, h7⟩
    ·rw [h1] at hsv; cases hsv; simp at hm'; subst hm'; simp
    ·rw [hsv2] at hsv; cases hsv; omega
  refine hc cp0 key.1 (by have := key.2; simp only [maxLen] at this; omega) hB a w ⟨Kk, G, r1, hS.cell hi (fun c v hv hcv => ?_), r3, r4, r5, fun x hx => ?_⟩
  ·rw [hj] at hv
   cases hv
   simp only [VR] at hcv ⊢
   obtain ⟨g', hg', rfl, _⟩ := hcv
   obtain rfl : g' = go := Option.some.inj (hg'.symm.trans hgo)
   exact ⟨g', a0, n0, cp0, hg', hsv, rfl, rfl⟩
  ·obtain ⟨y, hy, hk⟩ := r6 x hx
   by_cases e : x = i
   ·subst e
    exact ⟨_, List.getElem?_set_self (List.getElem?_eq_some_iff.1 hi).1, rfl⟩
   ·exact ⟨y, by rw [List.getElem?_set_ne (Ne.symm e)]; exact hy, hk⟩
theorem Wp.capE {Q : Qt} {c : Code} (i j o cp : Nat) {T : TypeId} {vs : List Va} (hi : Is H[i]? (some (.cells T vs))) (hj : Is vs[j]? (some (.bufc o cp)))
  (hc : Wp P kl n B c Q E (H.set i (.cells T (vs.set j (.buf o))))) : Wp P kl n B c Q E H := by
 unfold Is at hi hj
 intro hB a w hR
 obtain ⟨Kk, G, r1, hS, r3, r4, r5, r6⟩ := hR
 refine hc hB a w ⟨Kk, G, r1, hS.cell hi (fun c v hv hcv => ?_), r3, r4, r5, fun x hx => ?_⟩
 ·rw [hj] at hv
  cases hv
  simp only [VR] at hcv ⊢
  obtain ⟨g, a, n, cap, h1, h2, h3, _⟩ := hcv
  exact ⟨g, h1, h3, a, n, cap, h2⟩
 ·obtain ⟨y, hy, hk⟩ := r6 x hx
  by_cases e : x = i
  ·subst e
   exact ⟨_, List.getElem?_set_self (List.getElem?_eq_some_iff.1 hi).1, rfl⟩
  ·exact ⟨y, by rw [List.getElem?_set_ne (Ne.symm e)]; exact hy, hk⟩
omit [Tabs] in
theorem encM_len {Kt V : Type} (kd : Kt → Dt) (e : V → List Dt) (l : List (Kt × V)) : (encM kd e l).length = l.length := by simp [encM]
end
attribute [go_sem] encM_len
end Go.Vc
/- Ranges over maps: in whatever order. -/
set_option linter.unusedSectionVars false
namespace Go.Vc
variable [Tabs]

section
variable {α β S : Type}
noncomputable def forM (f : α → S → (S → Option β) → (S → Option β) → Option β) : Nat → List α → S → (S → Option β) → Option β
 | 0, _, s, k => k s
 | n + 1, r, s, k => anyOf (fun j : Nat => j < r.length) fun j => match r[j]? with
  | some x => f x s (fun s' => forM f n (r.eraseIdx j) s' k) k
  | none => none
theorem forM_cont {z : β} {f : α → S → (S → Option β) → (S → Option β) → Option β} {n : Nat} {r : List α} {s : S} {F : S → Option β} (h : forM f n r s F = some z) : ∃ k, (∀ s, k s = some z → F s = some z) ∧ forM f n r s k = some z := ⟨F, fun _ h => h, h⟩
theorem forM_end {z : β} {f : α → S → (S → Option β) → (S → Option β) → Option β} {r : List α} {s : S} {k : S → Option β} (h : forM f r.length r s k = some z) (hr : r.length = 0) : k s = some z := by
 rw [hr] at h; exact h
theorem forM_step {z : β} {f : α → S → (S → Option β) → (S → Option β) → Option β} {r : List α} {s : S} {k : S → Option β} (h : forM f r.length r s k = some z) {j : Nat} (hj : j < r.length) :
  ∃ x nx, r[j]? = some x ∧ (∀ s', nx s' = some z → forM f (r.eraseIdx j).length (r.eraseIdx j) s' k = some z) ∧ f x s nx k = some z := by
 obtain ⟨n, hn⟩ : ∃ n, r.length = n + 1 := ⟨r.length - 1, by omega⟩
 rw [hn] at h
 simp only [forM] at h
 have h1 := anyOf_elim h j hj
 rw [List.getElem?_eq_getElem hj] at h1
 exact ⟨r[j], fun s' => forM f n (r.eraseIdx j) s' k, List.getElem?_eq_getElem hj, fun s' hs => by rw [show (r.eraseIdx j).length = n by rw [List.length_eraseIdx, if_pos hj]; omega]; exact hs, h1⟩
def left : List Nat → List Nat → List α → List α
 | b :: bs, seen, x :: l => bif seen.contains b then left bs seen l else x :: left bs seen l
 | _, _, _ => []
theorem left_nil : ∀ (bs : List Nat) (l : List α), l.length = bs.length → left bs [] l = l
 | [], [], _ => rfl
 | b :: bs, x :: l, h => by simp only [left, List.contains_nil, cond_false]; rw [left_nil bs l (by simpa using h)]
 | [], _ :: _, h => by simp at h
 | _ :: _, [], h => by simp at h
theorem left_length {γ : Type} {seen : List Nat} : ∀ {bs : List Nat} {l : List α} {m : List γ}, l.length = bs.length → m.length = bs.length → (left bs seen l).length = (left bs seen m).length
 | [], [], [], _, _ => rfl
 | b :: bs, x :: l, y :: m, h, h' => by
  have ih := left_length (seen := seen) (bs := bs) (l := l) (m := m) (by simpa using h) (by simpa using h')
  simp only [left]
  cases seen.contains b <;> simp [ih]
 | [], _ :: _, _, h, _ => by simp at h
 | [], [], _ :: _, _, h => by simp at h
 | _ :: _, [], _, h, _ => by simp at h
 | _ :: _, _ :: _, [], _, h => by simp at h
theorem left_map {γ : Type} (g : α → γ) (seen : List Nat) : ∀ (bs : List Nat) (l : List α), left bs seen (l.map g) = (left bs seen l).map g
 | [], _ => by simp [left]
 | _ :: _, [] => by simp [left]
 | b :: bs, x :: l => by
  simp only [List.map_cons, left, left_map g seen bs l]
  cases seen.contains b <;> rfl
theorem left_filter {γ : Type} (g : γ → Nat) (seen : List Nat) : ∀ (l : List γ), left (l.map g) seen l = l.filter fun x => !seen.contains (g x)
 | [] => rfl
 | x :: l => by
  simp only [List.map_cons, left, left_filter g seen l, List.filter_cons]
  cases seen.contains (g x) <;> rfl
theorem left_encM {Kt V : Type} (kd : Kt → Dt) (e : V → List Dt) (bs seen : List Nat) (l : List (Kt × V)) : left bs seen (encM kd e l) = encM kd e (left bs seen l) := left_map _ seen bs l
structure NextOk (bs seen : List Nat) (j p st : Nat) : Prop where
 hp : bs[p]? = some st
 er : ∀ {α : Type} (l : List α), l.length = bs.length → j < (left bs seen l).length ∧ left bs (seen ++ [st]) l = (left bs seen l).eraseIdx j ∧ (left bs seen l)[j]? = l[p]?
theorem left_out {b : Nat} {seen : List Nat} : ∀ {bs : List Nat}, b ∉ bs → ∀ {α : Type} (l : List α), l.length = bs.length → left bs (seen ++ [b]) l = left bs seen l
 | [], _, _, l, _ => by cases l <;> rfl
 | c :: bs, hb, _, [], h => by simp at h
 | c :: bs, hb, _, x :: l, h => by
  have hc : ¬ c = b := fun e => hb (by simp [e])
  have : (seen ++ [b]).contains c = seen.contains c := by
   rw [Bool.eq_iff_iff]
   simp [hc]
  simp only [left, this, left_out (fun h => hb (List.mem_cons_of_mem _ h)) l (by simpa using h)]
theorem nextOk {bs seen : List Nat} (hn : bs.Nodup) {j : Nat} (hj : j < (left bs seen bs).length) : ∃ p st, NextOk bs seen j p st ∧ (left bs seen bs)[j]? = some st := by
 induction bs generalizing j with
 | nil => simp [left] at hj
 | cons b bs ih =>
  have hn' := List.nodup_cons.1 hn
  have hc : ∀ {α : Type} (x : α) (l : List α) (sn : List Nat), left (b :: bs) sn (x :: l) = bif sn.contains b then left bs sn l else x :: left bs sn l := fun _ _ _ => rfl
  have hout : ∀ {α : Type} (l : List α), l.length = bs.length → left bs (seen ++ [b]) l = left bs seen l := fun l hl => left_out hn'.1 l hl
  cases hs : seen.contains b with
  | true =>
   have h1 : left (b :: bs) seen (b :: bs) = left bs seen bs := by rw [hc, hs]; rfl
   rw [h1] at hj
   obtain ⟨p, st, ⟨q1, q2⟩, q3⟩ := ih hn'.2 hj
   refine ⟨p + 1, st, ⟨by simpa using q1, ?_⟩, by rw [h1]; exact q3⟩
   intro α l hl
   cases l with
   | nil => simp at hl
   | cons x l =>
    have hs' : (seen ++ [st]).contains b = true := by simp at hs ⊢; exact .inl hs
    obtain ⟨r1, r2, r3⟩ := q2 l (by simpa using hl)
    rw [hc, hs, hc, hs']
    exact ⟨r1, r2, by simpa using r3⟩
  | false =>
   have h1 : left (b :: bs) seen (b :: bs) = b :: left bs seen bs := by rw [hc, hs]; rfl
   rw [h1] at hj
   cases j with
   | zero =>
    refine ⟨0, b, ⟨rfl, ?_⟩, by rw [h1]; rfl⟩
    intro α l hl
    cases l with
    | nil => simp at hl
    | cons x l =>
     have hs' : (seen ++ [b]).contains b = true := by simp
     rw [hc, hs, hc, hs']
     exact ⟨by simp, by simp only [cond_true, cond_false, List.eraseIdx_zero, List.tail_cons]; exact hout l (by simpa using hl), rfl⟩
   | succ j =>
    obtain ⟨p, st, ⟨q1, q2⟩, q3⟩ := ih hn'.2 (by simpa using hj)
    refine ⟨p + 1, st, ⟨by simpa using q1, ?_⟩, by rw [h1]; simpa using q3⟩
    intro α l hl
    cases l with
    | nil => simp at hl
    | cons x l =>
     have hb : b ≠ st := fun e => hn'.1 (e ▸ List.mem_of_getElem? q1)
     have hs' : (seen ++ [st]).contains b = false := by simp at hs ⊢; exact ⟨hs, hb⟩
     obtain ⟨r1, r2, r3⟩ := q2 l (by simpa using hl)
     rw [hc, hs, hc, hs']
     exact ⟨by simpa using r1, by simp [r2], by simpa using r3⟩
end

section
variable {P : Program} {kl : List Bool} {n : Nat} {B : Bs} {Q : Qt} {E : Env} {H : List Ob}
theorem Wp.forM {Z S α : Type} {z : Z} {f : α → S → (S → Option Z) → (S → Option Z) → Option Z} {k : S → Option Z} {l : List α} {bs : List Nat} {c : Code} {s0 : S} (live : List Nat → S → Env) (objs : List Nat → S → List Ob) (hb : l.length = bs.length)
  (h0 : Weak kl E H (live [] s0) (objs [] s0)) (hm : Vc.forM f l.length l s0 k = some z)
  (round : ∀ (seen : List Nat) (s : S), Vc.forM f (left bs seen l).length (left bs seen l) s k = some z → Wp P kl n B c (thenQ (fun E' H' => ∃ seen' s', (left bs seen' l).length < (left bs seen l).length ∧ Vc.forM f (left bs seen' l).length (left bs seen' l) s' k = some z ∧ Weak kl E' H' (live seen' s') (objs seen' s')) Q) (live seen s) (objs seen s)) : Wp P kl n B (.loop c) Q E H := by
 refine Wp.loop (S := List Nat × S) (fun t => live t.1 t.2) (fun t => objs t.1 t.2) (fun t => Vc.forM f (left bs t.1 l).length (left bs t.1 l) t.2 k = some z) (fun t => (left bs t.1 l).length) ([], s0) h0 (by simp only [left_nil bs l hb]; exact hm) fun t h2 => (round t.1 t.2 h2).mono fun e E' H' h => ?_
 cases e with
 | normal => obtain ⟨sn, s', h3, h4, h5⟩ := h; exact ⟨(sn, s'), h4, h3, h5⟩
 | _ => exact h
end

theorem MRs.left {K : Nat → Prop} {h : Array Obj} {ag : Bool} {seen : List Nat} : ∀ {mes : List MapEntry} {es : List (Dt × List Dt)}, MRs K h ag mes es → MRs K h ag (mes.filter fun e => !seen.contains e.born) (left (mes.map (·.born)) seen es)
 | [], [], _ => by simp [Vc.left, MRs]
 | e :: mes, p :: es, hm => by
  simp only [MRs] at hm
  have ih := MRs.left (seen := seen) hm.2.2
  simp only [List.map_cons, Vc.left, List.filter_cons]
  cases seen.contains e.born
  ·simp only [Bool.not_false, if_true, cond_false, MRs]; exact ⟨hm.1, hm.2.1, ih⟩
  ·simpa using ih
 | [], _ :: _, hm => by simp [MRs] at hm
 | _ :: _, [], hm => by simp [MRs] at hm
theorem MRs.get {K : Nat → Prop} {h : Array Obj} {ag : Bool} : ∀ {mes : List MapEntry} {es : List (Dt × List Dt)} {p : Nat} {x : Dt × List Dt}, MRs K h ag mes es → es[p]? = some x → ∃ e, mes[p]? = some e ∧ DR K h e.key x.1 ∧ mval K h ag e.val x.2
 | [], [], p, x, _, hx => by simp at hx
 | e :: mes, y :: es, 0, x, hm, hx => by
  simp only [MRs] at hm
  simp at hx
  subst hx
  refine ⟨e, rfl, hm.1, ?_⟩
  cases ag <;> exact hm.2.1
 | e :: mes, y :: es, p + 1, x, hm, hx => by
  simp only [MRs] at hm
  simpa using MRs.get hm.2.2 (by simpa using hx)
 | [], _ :: _, _, _, hm, _ => by simp [MRs] at hm
 | _ :: _, [], _, _, hm, _ => by simp [MRs] at hm
theorem mval_rowV {K : Nat → Prop} {h : Array Obj} {G : List Gh} {ag : Bool} {v : Value} {row : List Dt} (hv : mval K h ag v row) : VR K h G v (rowV ag row) := by
 cases ag with
 | true =>
  obtain ⟨cs, rfl, h2⟩ := hv
  simp only [rowV, cond_true, VR]
  exact ⟨cs, rfl, DRs.vrs h2⟩
 | false =>
  obtain ⟨d, rfl, h2⟩ := hv
  simp only [rowV, cond_false, hdD, List.drop_zero]
  simpa only [VR] using h2
section
variable {K : Nat → Prop} {G : List Gh} {H : List Ob} {w : World}
theorem St.reob (hS : St K G H w) {o : Nat} {g : Gh} {b : Nat} (hg : G[o]? = some g) (hb : g.blk = some b) {x : Ob} (hx : ObR K w.heap G g x) : St K G (H.set o x) w :=
 hS.modA hg hb rfl (fun _ _ => rfl) hx
end
theorem run_next_at {P : Program} (w : World) (ty : TypeId) {bq bm cl : Nat} {seen : List Nat} {mes : Array MapEntry} (e4 : w.heap[bq]? = some (.mapIter (some bm) cl seen.toArray cl)) (hbm : w.heap[bm]? = some (.map mes cl))
  (hunsup : (!seen.toArray.isEmpty && !mes.isEmpty && mes.all (fun e => decide (e.born ≥ cl))) = false)
  (hold : (mes.filter fun e => !seen.toArray.contains e.born).filter (fun e => decide (e.born < cl)) = mes.filter fun e => !seen.contains e.born)
  (hnew : (mes.filter fun e => !seen.toArray.contains e.born).filter (fun e => decide (e.born ≥ cl)) = #[]) :
  ((mes.filter fun e => !seen.contains e.born).size = 0 ∧ (Instr.next (.pointer (some ⟨bq, 0, none⟩)) false ty).run P w = .ok (.tuple #[.bool false]) w) ∨
  ∃ (j : Nat) (hj : j < (mes.filter fun e => !seen.contains e.born).size) (w1 : World), (w1 = w ∨ w1 = w.drew) ∧
   (Instr.next (.pointer (some ⟨bq, 0, none⟩)) false ty).run P w = .ok (.tuple #[.bool true, (mes.filter fun e => !seen.contains e.born)[j].key, (mes.filter fun e => !seen.contains e.born)[j].val])
    { w1 with heap := w1.heap.setIfInBounds bq (.mapIter (some bm) cl (seen ++ [(mes.filter fun e => !seen.contains e.born)[j].born]).toArray cl) } := by
 have hlt : bq < w.heap.size := (Array.getElem?_eq_some_iff.1 e4).1
 simp only [Instr.next, getObj, Sem.run_bind, Sem.run, e4, hbm, Result.andThen, hunsup, Bool.false_eq_true, if_false, hold, hnew, Array.append_empty]
 generalize (mes.filter fun e => !seen.contains e.born) = L
 by_cases h0 : L.size = 0
 ·left
  have : L = #[] := Array.eq_empty_of_size_eq_zero h0
  subst this
  refine ⟨rfl, ?_⟩
  simp [choose, Sem.run, Question.forced]
 ·right
  have hne : L.isEmpty = false := by simp [Array.isEmpty, h0]
  simp only [hne, Bool.false_eq_true, if_false, Array.empty_append, Array.size_map]
  have hch : ∃ (j : Nat) (w1 : World), j < L.size ∧ (w1 = w ∨ w1 = w.drew) ∧ (choose (Question.mapNext L.size)).run P w = .ok j w1 := by
   by_cases hf : L.size ≤ 1
   ·exact ⟨0, w, by omega, .inl rfl, by simp [choose, Sem.run, Question.forced, hf]⟩
   ·exact ⟨_, w.drew, Nat.mod_lt _ (by omega), .inr rfl, by
     simp only [choose, Sem.run, Question.forced, decide_eq_true_eq, hf, if_false, Question.cut]
     rfl⟩
  obtain ⟨j, w1, hj, hal, hrun⟩ := hch
  refine ⟨j, hj, w1, hal, ?_⟩
  have hset : (setObj bq (.mapIter (some bm) cl (seen.toArray.push L[j].born) cl)).run P w1 = .ok () { w1 with heap := w1.heap.setIfInBounds bq (.mapIter (some bm) cl (seen.toArray.push L[j].born) cl) } := by
   have h1 : w1.heap[bq]? = some (.mapIter (some bm) cl seen.toArray cl) := by rcases hal with rfl | rfl <;> exact e4
   simp [setObj, Sem.run, h1]
  simp only [hrun, Array.getElem?_map, Array.getElem?_eq_getElem hj, Option.map_some, Sem.run_bind, hset, Result.andThen]
  simp
section
variable {P : Program} {kl : List Bool} {n : Nat} {B : Bs} {ops : Array Oper} {K : Env → List Ob → Prop} {E : Env} {H : List Ob}
theorem Rg.range {o : Oper} {l : List Oper} {t : TypeId} {x : Operand} {i : Nat} {ag : Bool} {es : List (Dt × List Dt)} {kt et : TypeId} (ho : Is o.op (.range t x)) (hg : Is o.guard none) (hd : dstOk n o.dst) (hk : opOk true E x) (hx : Is (opnd E x) (.mp i)) (ht : Is (kindP P t) (.map kt et)) (hi : Is (obAt H i) (.mp ag es))
  (cont : ∀ (bs : List Nat) (cl : Nat), es.length = bs.length → bs.Nodup → (∀ b ∈ bs, b < cl) → RgEnd P kl n B ops K (run1 P kl n ops.toList l ⟨eput E o.dst (.ptr H.length 0), H.set i (.mpb ag es bs cl) ++ [.it i cl []], True⟩)) : Rg P kl n B ops (o :: l) E H K := by
 unfold Is at *
 refine Rg.any hg hd (I := fun v H' => v = .ptr H.length 0 ∧ ∃ bs cl, es.length = bs.length ∧ bs.Nodup ∧ (∀ b ∈ bs, b < cl) ∧ H' = H.set i (.mpb ag es bs cl) ++ [.it i cl []]) ?_ ?_
 rotate_left
 ·rintro v H' ⟨rfl, bs, cl, h1, h2, h3, rfl⟩
  exact cont bs cl h1 h2 h3
 intro a w hR
 obtain ⟨Kk, G, hX, hS, hE, hdf, hn, hkp⟩ := hR
 have hvx := opnd_ok hE rfl x hk
 rw [hx] at hvx
 simp only [VR] at hvx
 obtain ⟨g, b, hgi, hgb, ha⟩ := hvx
 have hiH := obAt_some hi (by simp)
 obtain ⟨hlim, b', mes, clock, hb', hbm, hmr, hst⟩ := hS.ob i g _ hgi hiH
 obtain rfl : b' = b := by rw [hgb] at hb'; exact (Option.some.inj hb').symm
 obtain ⟨ti, ht', hk'⟩ := kindP_some ht (by simp)
 have hu := tk_map ht' hk'
 have hst' := (MapKept.stamped_iff mes clock).1 hst
 have hil : i < G.length := (List.getElem?_eq_some_iff.1 hgi).1
 have hS1 := hS.reob hgi hgb (x := .mpb ag es (mes.toList.map (·.born)) clock) ⟨hlim, b', mes, hgb, hbm, hmr, hst, rfl⟩
 have hS2 := hS1.push (o := .mapIter (some b') clock #[] clock) (x := .it i clock []) (sv := undef) ⟨w.heap.size, b', g, rfl, by rw [List.getElem?_append_left hil]; exact hgi, hgb, heap_alloc_new w _⟩
 have hM := Mn.alloc hS.kb (.mapIter (some b') clock #[] clock)
 have hG : ∀ (o : Nat) (g : Gh), G[o]? = some g → (G ++ [⟨some w.heap.size, undef⟩])[o]? = some g := fun o g hg => Mg.push G _ o g rfl hg
 refine ⟨.pointer (some ⟨w.heap.size, 0, none⟩), w.alloc (.mapIter (some b') clock #[] clock), .ptr H.length 0, H.set i (.mpb ag es (mes.toList.map (·.born)) clock) ++ [.it i clock []], ?_, ⟨rfl, _, clock, by rw [List.length_map]; exact hmr.length.symm, hst'.2.1, by simpa using hst'.1, rfl⟩, ?_⟩
 ·have hrun : (Instr.range t (a.eval x)).run P w = .ok (.pointer (some ⟨w.heap.size, 0, none⟩)) (w.alloc (.mapIter (some b') clock #[] clock)) := by
   rw [ha]
   simp [Instr.range, run_underlying hu, MapKept.run_getObj_map hbm, Result.andThen]
  obtain ⟨dst, op, ty, pos, af, gd⟩ := o
  cases ho
  exact val_run hrun
 ·refine ⟨Kk, G ++ [⟨some w.heap.size, undef⟩], hX.trans (Ext.push _ _ undef), hS2, fun m => VR.grow hM hG _ _ (hE m), hdf, hn, fun q hq => ?_, ?_⟩
  ·obtain ⟨y, hy, hky⟩ := hkp q hq
   have hql := (List.getElem?_eq_some_iff.1 hy).1
   by_cases e : q = i
   ·subst e
    exact ⟨_, by rw [List.getElem?_append_left (by simpa using hql)]; exact List.getElem?_set_self hql, rfl⟩
   ·exact ⟨y, by rw [List.getElem?_append_left (by simpa using hql), List.getElem?_set_ne (Ne.symm e)]; exact hy, hky⟩
  ·simp only [VR]
   refine ⟨⟨some w.heap.size, undef⟩, w.heap.size, ?_, rfl, rfl⟩
   rw [← hS.len, List.getElem?_append_right (Nat.le_refl _)]
   simp
theorem Rg.next {o : Oper} {l : List Oper} {x : Operand} {q i cl : Nat} {ag : Bool} {es : List (Dt × List Dt)} {bs seen : List Nat} (ho : Is o.op (.next x false)) (hg : Is o.guard none) (hd : dstOk n o.dst) (hk : opOk true E x) (hx : Is (opnd E x) (.ptr q 0)) (hq : Is (obAt H q) (.it i cl seen)) (hi : Is (obAt H i) (.mpb ag es bs cl))
  (hkq : kpf kl q = false) (hb1 : es.length = bs.length) (hb2 : bs.Nodup) (hb3 : ∀ b ∈ bs, b < cl)
  (he : (left bs seen bs).length = 0 → RgEnd P kl n B ops K (run1 P kl n ops.toList l ⟨eput E o.dst (.tup [.p (.b false)]), H, True⟩))
  (hs : ∀ (j p st : Nat), NextOk bs seen j p st → RgEnd P kl n B ops K (run1 P kl n ops.toList l ⟨eput E o.dst (.tup [.p (.b true), .top, .top]), H.set q (.it i cl (seen ++ [st])), True⟩)) : Rg P kl n B ops (o :: l) E H K := by
 unfold Is at *
 refine Rg.any hg hd (I := fun v H' => ((left bs seen bs).length = 0 ∧ v = .tup [.p (.b false)] ∧ H' = H) ∨ ∃ j p st, NextOk bs seen j p st ∧ v = .tup [.p (.b true), .top, .top] ∧ H' = H.set q (.it i cl (seen ++ [st]))) ?_ ?_
 rotate_left
 ·rintro v H' (⟨h1, rfl, rfl⟩ | ⟨j, p, st, h1, rfl, rfl⟩)
  ·exact he h1
  ·exact hs j p st h1
 intro a w hR
 obtain ⟨Kk, G, hX, hS, hE, hdf, hn, hkp⟩ := hR
 have hvx := opnd_ok hE rfl x hk
 rw [hx] at hvx
 simp only [VR] at hvx
 obtain ⟨gq, bq, hgq, hbq, ha⟩ := hvx
 have hqH := obAt_some hq (by simp)
 have hiH := obAt_some hi (by simp)
 obtain ⟨bq', bm, gm, e1, e2, e3, e4⟩ := hS.ob q gq _ hgq hqH
 obtain rfl : bq' = bq := by rw [hbq] at e1; exact (Option.some.inj e1).symm
 obtain ⟨hlim, b', mes, hb', hbm, hmr, hst, hborn⟩ := hS.ob i gm _ e2 hiH
 obtain rfl : b' = bm := by rw [e3] at hb'; exact (Option.some.inj hb').symm
 subst hborn
 have hlen : es.length = mes.toList.length := by simpa using hb1
 have hunsup : (!seen.toArray.isEmpty && !mes.isEmpty && mes.all (fun e => decide (e.born ≥ cl))) = false := by
  cases hme : mes.isEmpty with
  | true => simp
  | false =>
   have : mes.all (fun e => decide (e.born ≥ cl)) = false := by
    rw [Array.all_eq_false']
    have hne : mes.toList ≠ [] := by
     intro e0
     have : mes = #[] := Array.toList_eq_nil_iff.1 e0
     subst this
     simp at hme
    obtain ⟨e0, r0, hcons⟩ := List.exists_cons_of_ne_nil hne
    refine ⟨e0, by rw [← Array.mem_toList_iff, hcons]; simp, ?_⟩
    have := hb3 e0.born (by simp [hcons])
    simp; omega
   simp [this]
 have hseen : ∀ y : Nat, seen.toArray.contains y = seen.contains y := by intro y; simp
 have hold : (mes.filter fun e => !seen.toArray.contains e.born).filter (fun e => decide (e.born < cl)) = mes.filter fun e => !seen.contains e.born := by
  apply Array.toList_inj.1
  simp only [Array.toList_filter, hseen]
  rw [List.filter_eq_self]
  intro e he
  have := (List.mem_filter.1 he).1
  simpa using hb3 e.born (by simp; exact ⟨e, by simpa using this, rfl⟩)
 have hnew : (mes.filter fun e => !seen.toArray.contains e.born).filter (fun e => decide (e.born ≥ cl)) = #[] := by
  apply Array.toList_inj.1
  simp only [Array.toList_filter, hseen]
  rw [List.filter_eq_nil_iff.2]
  intro e he
  have := (List.mem_filter.1 he).1
  have := hb3 e.born (by simp; exact ⟨e, by simpa using this, rfl⟩)
  simp; omega
 have hlf : (left (mes.toList.map (·.born)) seen (mes.toList.map (·.born))).length = (mes.filter fun e => !seen.contains e.born).size := by
  rw [left_length (m := mes.toList) (by simp) (by simp), left_filter, ← Array.toList_filter, Array.length_toList]
 have hrr := run_next_at (P := P) w o.type e4 hbm hunsup hold hnew
 have e0 : ∀ {c : Value} {w' : World}, (Instr.next (a.eval x) false o.type).run P w = .ok c w' → (execOp a.eval o).run P w = .ok (.value c) w' := by
  intro c w' hr
  obtain ⟨dst, op, ty, pos, af, gd⟩ := o
  cases ho
  exact val_run hr
 rw [← ha] at hrr
 rcases hrr with ⟨h0, hr⟩ | ⟨j, hj, w1, hw1, hr⟩
 ·refine ⟨_, _, .tup [.p (.b false)], H, e0 hr, .inl ⟨by rw [hlf]; exact h0, rfl, rfl⟩, Kk, G, hX, hS, hE, hdf, hn, hkp, ?_⟩
  simp only [VR, VRs, DR]
  exact ⟨[.bool false], rfl, _, _, rfl, rfl, rfl⟩
 ·obtain ⟨p, st, hok, hst'⟩ := nextOk hb2 (by rw [hlf]; exact hj)
  have hstb : st = (mes.filter fun e => !seen.contains e.born)[j].born := by
   rw [left_map (fun e : MapEntry => e.born), left_filter, ← Array.toList_filter, List.getElem?_map, Array.getElem?_toList, Array.getElem?_eq_getElem hj] at hst'
   simpa using hst'.symm
  rw [← hstb] at hr
  have hqb : bq' < w.heap.size := (Array.getElem?_eq_some_iff.1 e4).1
  have hsz : w1.heap.size = w.heap.size := by rcases hw1 with rfl | rfl <;> rfl
  have hhp : w1.heap = w.heap := by rcases hw1 with rfl | rfl <;> rfl
  have hfr : ∀ y, y ≠ bq' → ({ w1 with heap := w1.heap.setIfInBounds bq' (.mapIter (some b') cl (seen ++ [st]).toArray cl) } : World).heap[y]? = w.heap[y]? := fun y hy => by simp [Ne.symm hy, hhp]
  have hqi : q ≠ i := fun e => by subst e; rw [hqH] at hiH; cases hiH
  have hMn : Mn Kk Kk w.heap ({ w1 with heap := w1.heap.setIfInBounds bq' (.mapIter (some b') cl (seen ++ [st]).toArray cl) } : World).heap := ⟨fun _ h => h, fun y hy => hfr y fun e => (hS.gb q gq _ hgq hbq).2 (e ▸ hy)⟩
  have hS1 := hS.modA (x := .it i cl (seen ++ [st])) hgq hbq (w' := { w1 with heap := w1.heap.setIfInBounds bq' (.mapIter (some b') cl (seen ++ [st]).toArray cl) }) (by simp [hsz]) hfr ⟨bq', b', gm, hbq, e2, e3, by simp [hsz, hqb]⟩
  refine ⟨_, _, .tup [.p (.b true), .top, .top], H.set q (.it i cl (seen ++ [st])), e0 hr, .inr ⟨j, p, st, hok, rfl, rfl⟩, Kk, G, hX.trans (Ext.modA _ hgq hbq ?_ ?_ ?_ (by simp [hsz]) hfr), hS1, fun m => VR.grow hMn (fun _ _ h => h) _ _ (hE m), hdf, hn, fun y hy => ?_, ?_⟩
  ·rcases hw1 with rfl | rfl <;> rfl
  ·rcases hw1 with rfl | rfl <;> rfl
  ·rcases hw1 with rfl | rfl <;> rfl
  ·have hyq : y ≠ q := fun e => by subst e; rw [show kpf kl y = true from hy] at hkq; cases hkq
   obtain ⟨z, hz, hkz⟩ := hkp y hy
   exact ⟨z, by rw [List.getElem?_set_ne (Ne.symm hyq)]; exact hz, hkz⟩
  ·simp only [VR, VRs, DR]
   exact ⟨[.bool true, _, _], rfl, _, _, rfl, rfl, _, _, rfl, trivial, _, _, rfl, trivial, rfl⟩
theorem Rg.entry {o : Oper} {l : List Oper} {x : Operand} {q i cl p st : Nat} {ag : Bool} {es : List (Dt × List Dt)} {bs seen : List Nat} {d : Dt} {row : List Dt} (ho : Is o.op (.entry x)) (hg : Is o.guard none) (hd : dstOk n o.dst) (hk : opOk true E x) (hx : Is (opnd E x) (.ptr q 0)) (hq : Is (obAt H q) (.it i cl (seen ++ [st]))) (hi : Is (obAt H i) (.mpb ag es bs cl))
  (hb2 : bs.Nodup) (hp : bs[p]? = some st) (he : es[p]? = some (d, row))
  (cont : RgEnd P kl n B ops K (run1 P kl n ops.toList l ⟨eput E o.dst (.tup [.p d, rowV ag row]), H, True⟩)) : Rg P kl n B ops (o :: l) E H K := by
 unfold Is at *
 refine Rg.any hg hd (I := fun v H' => v = .tup [.p d, rowV ag row] ∧ H' = H) ?_ (by rintro v H' ⟨rfl, rfl⟩; exact cont)
 intro a w hR
 obtain ⟨Kk, G, hX, hS, hE, hdf, hn, hkp⟩ := hR
 have hvx := opnd_ok hE rfl x hk
 rw [hx] at hvx
 simp only [VR] at hvx
 obtain ⟨gq, bq, hgq, hbq, ha⟩ := hvx
 have hqH := obAt_some hq (by simp)
 have hiH := obAt_some hi (by simp)
 obtain ⟨bq', bm, gm, e1, e2, e3, e4⟩ := hS.ob q gq _ hgq hqH
 obtain rfl : bq' = bq := by rw [hbq] at e1; exact (Option.some.inj e1).symm
 obtain ⟨hlim, b', mes, hb', hbm, hmr, hst, hborn⟩ := hS.ob i gm _ e2 hiH
 obtain rfl : b' = bm := by rw [e3] at hb'; exact (Option.some.inj hb').symm
 obtain ⟨e, he1, he2, he3⟩ := hmr.get he
 have heb : e.born = st := by
  rw [← hborn, List.getElem?_map, he1] at hp
  simpa using hp
 have hf : mes.find? (·.born == st) = some e := by
  rw [← Array.find?_toList, ← heb]
  exact find_born e mes.toList (by rw [hborn]; exact hb2) (List.mem_of_getElem? he1)
 have hr : (Instr.entry (a.eval x)).run P w = .ok (.tuple #[e.key, e.val]) w := by
  rw [ha]
  have : (seen ++ [st]).toArray.back? = some st := by simp
  simp only [Instr.entry, getObj, Sem.run_bind, Sem.run, e4, hbm, Result.andThen, this, bne_self_eq_false, Bool.false_eq_true, if_false, hf]
  rfl
 refine ⟨.tuple #[e.key, e.val], w, _, H, ?_, ⟨rfl, rfl⟩, Kk, G, hX, hS, hE, hdf, hn, hkp, ?_⟩
 ·obtain ⟨dst, op, ty, pos, af, gd⟩ := o
  cases ho
  exact val_run hr
 ·simp only [VR, VRs]
  exact ⟨[e.key, e.val], rfl, _, _, rfl, he2, _, _, rfl, mval_rowV he3, rfl⟩
end
section
variable {P : Program} {kl : List Bool} {n : Nat} {B : Bs} {Q : Qt} {E : Env} {H : List Ob}
theorem Wp.endM {c : Code} (i q : Nat) {ag : Bool} {es : List (Dt × List Dt)} {bs seen : List Nat} {cl : Nat} (hi : Is (obAt H i) (.mpb ag es bs cl)) (hq : Is (obAt H q) (.it i cl seen)) (hk : kpf kl q = false)
  (hc : Wp P kl n B c Q E ((H.set i (.mp ag es)).set q .gone)) : Wp P kl n B c Q E H := by
 unfold Is at *
 intro hB a w hR
 obtain ⟨K, G, r1, hS, r3, r4, r5, r6⟩ := hR
 have hiH := obAt_some hi (by simp)
 have hqH := obAt_some hq (by simp)
 obtain ⟨gi, hgi, hob⟩ := hS.ghost hiH
 obtain ⟨hlim, b, mes, e1, e2, e3, e4, e5⟩ := hob
 obtain ⟨gq, hgq, hobq⟩ := hS.ghost hqH
 obtain ⟨bq, bm, gm, q1, q2⟩ := hobq
 have s1 := hS.reob hgi e1 (x := .mp ag es) ⟨hlim, b, mes, cl, e1, e2, e3, e4⟩
 have s2 := s1.reob hgq q1 (x := .gone) trivial
 refine hc hB a w ⟨K, G, r1, s2, r3, r4, r5, fun y hy => ?_⟩
 have hyq : y ≠ q := fun e => by subst e; rw [show kpf kl y = true from hy] at hk; cases hk
 obtain ⟨z, hz, hkz⟩ := r6 y hy
 by_cases e : y = i
 ·subst e
  exact ⟨_, by rw [List.getElem?_set_ne (Ne.symm hyq)]; exact List.getElem?_set_self (List.getElem?_eq_some_iff.1 hz).1, rfl⟩
 ·exact ⟨z, by rw [List.getElem?_set_ne (Ne.symm hyq), List.getElem?_set_ne (Ne.symm e)]; exact hz, hkz⟩
end
section
variable {α β S : Type}
theorem forM_next {z : β} {f : α → S → (S → Option β) → (S → Option β) → Option β} {k : S → Option β} {s' : S} {bs seen : List Nat} {l : List α} {j p st : Nat} (hok : NextOk bs seen j p st) (hb : l.length = bs.length)
  (h : forM f ((left bs seen l).eraseIdx j).length ((left bs seen l).eraseIdx j) s' k = some z) : (left bs (seen ++ [st]) l).length < (left bs seen l).length ∧ forM f (left bs (seen ++ [st]) l).length (left bs (seen ++ [st]) l) s' k = some z := by
 obtain ⟨h1, h2, _⟩ := hok.er l hb
 rw [h2]
 exact ⟨by rw [List.length_eraseIdx, if_pos h1]; omega, h⟩
theorem encM_get {Kt V : Type} {kd : Kt → Dt} {e : V → List Dt} {l : List (Kt × V)} {p : Nat} {x : Kt × V} (h : l[p]? = some x) : (encM kd e l)[p]? = some (kd x.1, e x.2) := by simp [encM, h]
theorem encM_bs {Kt V : Type} {kd : Kt → Dt} {e : V → List Dt} {l : List (Kt × V)} {bs : List Nat} (h : (encM kd e l).length = bs.length) : l.length = bs.length := by rw [← h, encM_len]
end
end Go.Vc
/- Two more operations as steps: whether a slice is nil (where nobody knows); a cut of a growing slice that is cleared. -/
set_option linter.unusedSectionVars false
namespace Go.Vc
variable [Tabs]
section
variable {P : Program} {kl : List Bool} {n : Nat} {B : Bs} {ops : Array Oper} {K : Env → List Ob → Prop} {E : Env} {H : List Ob}
theorem Rg.isnil {o : Oper} {l : List Oper} {t u : TypeId} {x : Operand} {rows : List (List Dt)} {e : TypeId} {esz eb : Nat} {ez : List Value} (ho : Is o.op (.binOp .eql t x (.const (.slice none 0 0)) u)) (hg : Is o.guard none) (hd : dstOk n o.dst) (hk : opOk true E x) (hx : Is (opnd E x) (.p (.l rows))) (ht : Is (kindP P t) (.slice e esz eb ez))
  (cont : ∀ b : Bool, (b = true → rows = []) → RgEnd P kl n B ops K (run1 P kl n ops.toList l ⟨eput E o.dst (.p (.b b)), H, True⟩)) : Rg P kl n B ops (o :: l) E H K := by
 unfold Is at *
 refine Rg.any hg hd (I := fun v H' => H' = H ∧ ∃ b : Bool, (b = true → rows = []) ∧ v = .p (.b b)) ?_ (by rintro v H' ⟨rfl, b, h1, rfl⟩; exact cont b h1)
 intro a w hR
 obtain ⟨Kk, G, hX, hS, hE, hdf, hn, hkp⟩ := hR
 have hvx := opnd_ok hE rfl x hk
 rw [hx] at hvx
 simp only [VR, DR] at hvx
 obtain ⟨ti, ht', hk'⟩ := kindP_some ht (by simp)
 obtain ⟨hu, _⟩ := tk_slice ht' hk'
 have key : ∃ ad m cap, a.eval x = .slice ad m cap ∧ (ad.isNone = true → rows = []) := by
  rcases hvx with ⟨⟨ad, h1⟩, h2⟩ | ⟨b, off, cap, cs, T, fr, sz, vs, h1, _⟩
  ·exact ⟨ad, 0, 0, h1, fun _ => h2⟩
  ·exact ⟨_, _, _, h1, fun h => by simp at h⟩
 obtain ⟨ad, m, cap, hax, hnil⟩ := key
 refine ⟨.bool ad.isNone, w, _, H, ?_, ⟨rfl, ad.isNone, hnil, rfl⟩, Kk, G, hX, hS, hE, hdf, hn, hkp, by simp only [VR, DR]⟩
 have hr : (binOp .eql t (.slice ad m cap) (.slice none 0 0)).run P w = .ok (.bool ad.isNone) w := Lib.run_eql_slice_nil w t e ad m cap 0 0 hu
 obtain ⟨dst, op, ty, pos, af, gd⟩ := o
 cases ho
 have hgd := eqGuard_plain (P := P) (w := w) .eql t x (.const (.slice none 0 0)) (.slice ad m cap) (.slice none 0 0) (by simp) (by simp)
 have : (do eqGuard .eql t x (.const (.slice none 0 0)) (a.eval x) (a.eval (.const (.slice none 0 0))); binOp .eql t (a.eval x) (a.eval (.const (.slice none 0 0))) : Sem Value).run P w = .ok (.bool ad.isNone) w := by
  rw [hax]
  show (do eqGuard .eql t x (.const (.slice none 0 0)) (.slice ad m cap) (.slice none 0 0); binOp .eql t (.slice ad m cap) (.slice none 0 0) : Sem Value).run P w = _
  simp only [Sem.run_bind, hgd, Result.andThen_ok, hr]
 exact val_run this
theorem Rg.clear {o : Oper} {l : List Oper} {c : Call} {t : TypeId} {x : Operand} {i sz a m : Nat} {T : TypeId} {rows : List (List Dt)} {e : TypeId} {eb : Nat} {ez : List Value} {z : List Dt} (ho : Is o.op (.call c)) (hc : Is c.callee (.builtin .clear)) (hca : Is c.args.toList [x]) (hct : Is c.argTypes.toList [t]) (hg : Is o.guard none) (hd : dstOk n o.dst) (hk : opOk true E x)
  (hx : Is (opnd E x) (.vw i sz a m)) (ht : Is (kindP P t) (.slice e sz eb ez)) {fx : Bool} (hi : Is (bufAt H i) (some (T, sz, rows, fx))) (hz : Is (dts (ez.map cv)) (some z)) (hzk : zerosOk ez) (hzl : ez.length = sz) (hs0 : 0 < sz)
  (cont : RgEnd P kl n B ops K (run1 P kl n ops.toList l ⟨eput E o.dst .top, H.set i (mkB fx T sz (rows.take a ++ List.replicate m z ++ rows.drop (a + m))), True⟩)) : Rg P kl n B ops (o :: l) E H K := by
 unfold Is at *
 refine Rg.any hg hd (I := fun v H' => v = .top ∧ H' = H.set i (mkB fx T sz (rows.take a ++ List.replicate m z ++ rows.drop (a + m)))) ?_ (by rintro v H' ⟨rfl, rfl⟩; exact cont)
 intro ac w hR
 obtain ⟨Kk, G, hX, hS, hE, hdf, hn, hkp⟩ := hR
 have hvx := opnd_ok hE rfl x hk
 rw [hx] at hvx
 simp only [VR] at hvx
 obtain ⟨g, ad, N, cap, hgi, hsv, hle, ad', cap', hax, hmc, hcc, hpos⟩ := hvx
 obtain ⟨ti, ht', hk'⟩ := kindP_some ht (by simp)
 obtain ⟨hu, ⟨inf, hi1, hi2, hi3⟩, hez⟩ := tk_slice ht' hk'
 have hiH := bufAt_some hi
 obtain ⟨hlim, xs, hxs, hh⟩ := hS.bufOb hi hgi
 have hzi : ∃ zv, inf.zero = some zv ∧ zv.cells.toList = ez := by
  unfold zeroP at hez
  rw [hi1] at hez
  simp at hez
  exact hez
 obtain ⟨zv, hzv, hzc⟩ := hzi
 have hrl : rows.length = N := by
  rcases hh with ⟨⟨a0, h1⟩, rfl, _⟩ | ⟨b, cp, cur, fr, h1, _⟩
  ·rw [hsv] at h1; cases h1; rfl
  ·rw [hsv] at h1; cases h1; rfl
 have fin : ∀ (w' : World), (Builtin.clear_ #[t] o.type #[ac.eval x]).run P w = .ok (.tuple #[]) w' → RelV (cx P kl n B) E (H.set i (mkB fx T sz (rows.take a ++ List.replicate m z ++ rows.drop (a + m)))) (.tuple #[]) .top ac w' → ∃ c' w' v H', (execOp ac.eval o).run P w = .ok (.value c') w' ∧ (v = .top ∧ H' = H.set i (mkB fx T sz (rows.take a ++ List.replicate m z ++ rows.drop (a + m)))) ∧ RelV (cx P kl n B) E H' c' v ac w' := by
  intro w' hr hRV
  refine ⟨_, w', _, _, ?_, ⟨rfl, rfl⟩, hRV⟩
  obtain ⟨callee, args, argTypes⟩ := c
  obtain ⟨dst, op, ty, pos, af, gd⟩ := o
  cases ho
  simp only at hc hca hct hr
  subst hc
  have ha : args = #[x] := by cases args; simp_all
  have hat : argTypes = #[t] := by cases argTypes; simp_all
  subst ha; subst hat
  simp [execOp, resolve, invoke, builtin, hr]
 rcases Nat.eq_zero_or_pos m with rfl | hm
 ·have hsame : rows.take a ++ List.replicate 0 z ++ rows.drop (a + 0) = rows := by simp
  rw [hsame] at fin ⊢
  have hset : H.set i (mkB fx T sz rows) = H := by
   apply List.ext_getElem?
   intro j
   by_cases e : j = i
   ·subst e; rw [List.getElem?_set_self (List.getElem?_eq_some_iff.1 hiH).1, hiH]
   ·rw [List.getElem?_set_ne (Ne.symm e)]
  rw [hset] at fin ⊢
  refine fin w ?_ ⟨Kk, G, hX, hS, hE, hdf, hn, hkp, by simp only [VR]⟩
  rw [hax]
  cases ad' <;> simp [Builtin.clear_, run_underlying hu]
 ·obtain ⟨b, hgb, had, had'⟩ := hpos (by omega)
  rcases hh with ⟨_, _, h0⟩ | ⟨b', cp, cur, fr, h1, h2, h3, h4, h5, h6, h7, h8⟩
  ·rw [hgb] at h0; cases h0
  obtain rfl : b' = b := by rw [hgb] at h2; exact (Option.some.inj h2).symm
  have hzsz : zv.cells.size = sz := by rw [← hzl, ← hzc]; simp
  have hzcells : (Builtin.zeroCells zv.cells m).toList = (List.replicate m ez).flatten := by
   show (madeCells zv.cells (m * zv.cells.size)).toList = _
   rw [hzsz, made_flat (by rw [hzc]; exact hzl) hs0, hzc]
  have hzd : DRs Kk w.heap ez z := dts_ok (zeros_ok (G := G) hzk) hz
  have hzl' : z.length = sz := by have := hzd.length; omega
  have hnews := DRss.replicate hzd m
  rw [hzl'] at hnews
  have hnl : ((List.replicate m ez).flatten).length = m * sz := by have := hnews.length; simpa using this
  have hA : a * sz + m * sz ≤ rows.length * sz := by rw [← Nat.add_mul]; exact Nat.mul_le_mul_right _ (by omega)
  have hC : rows.length * sz ≤ cur.size := by rw [h7]; exact Nat.mul_le_mul_right _ h5
  have hst := run_storeCells_free (P := P) b' (a * sz) T fr (List.replicate m ez).flatten 0 cur w h3 h4 (by omega) hnews.ones
  simp only [Nat.add_zero] at hst
  have hxl : xs = cur.toList.take (rows.length * sz) := h8.symm
  have hcl : (setRv cur.toList (a * sz) (List.replicate m ez).flatten).length = cur.size := by rw [setRv_length _ _ _ (by rw [hnl]; simpa using (by omega : a * sz + m * sz ≤ cur.size))]; simp
  have hlen' : (rows.take a ++ List.replicate m z ++ rows.drop (a + m)).length = rows.length := by simp; omega
  refine fin (w.setRow b' (setRv cur.toList (a * sz) (List.replicate m ez).flatten).toArray) ?_ ?_
  ·rw [hax, had']
   have hm0 : m ≠ 0 := by omega
   have hzr : (zeroValue e).run P w = .ok zv w := by simp [zeroValue, typeInfo, hi1, hzv]
   obtain ⟨m', rfl⟩ : ∃ m', m = m' + 1 := ⟨m - 1, by omega⟩
   simp [Builtin.clear_, run_underlying hu, hzr, hzcells, hst]
  ·have hfr2 : ∀ y, y ≠ b' → (w.setRow b' (setRv cur.toList (a * sz) (List.replicate m ez).flatten).toArray).heap[y]? = w.heap[y]? := fun y hy => setRow_other w b' y _ hy
   have hMn : Mn Kk Kk w.heap (w.setRow b' (setRv cur.toList (a * sz) (List.replicate m ez).flatten).toArray).heap := ⟨fun _ h => h, fun y hy => hfr2 y fun e => (hS.gb i g b' hgi h2).2 (e ▸ hy)⟩
   refine ⟨Kk, G, hX.trans (Ext.modA _ hgi h2 rfl rfl rfl (setRow_size _ _ _) hfr2), hS.modA hgi h2 (setRow_size _ _ _) hfr2 (mkB_buf ▸ ⟨by rw [hlen']; exact hlim, xs.take (a * sz) ++ (List.replicate m ez).flatten ++ xs.drop ((a + m) * sz), ?_, .inr ⟨b', cp, _, fr, by rw [hlen']; exact h1, h2, setRow_heap w b' cur _ T fr h3, ?_, by rw [hlen']; exact h5, h6, ?_, ?_⟩⟩), fun q => VR.grow hMn (fun _ _ h => h) _ _ (hE q), hdf, hn, fun y hy => ?_, by simp only [VR]⟩
   ·exact DRss.mono hMn _ _ _ (((DRss.take hxs a).append hnews).append (DRss_drop hxs))
   ·simp only [List.size_toArray, hcl]; exact h4
   ·simp only [List.size_toArray, hcl]; exact h7
   ·rw [hlen', setRv_eq _ _ _ (by rw [hnl]; simpa using (by omega : a * sz + m * sz ≤ cur.size)), hnl, hxl]
    have e1 : ((cur.toList.take (a * sz) ++ (List.replicate m ez).flatten)).length = a * sz + m * sz := by rw [List.length_append, hnl, List.length_take]; simp; omega
    show (cur.toList.take (a * sz) ++ (List.replicate m ez).flatten ++ cur.toList.drop (a * sz + m * sz)).take (rows.length * sz) = _
    rw [List.take_append, List.take_of_length_le (by omega), e1, List.take_take, Nat.min_eq_left (by omega), Nat.add_mul, List.drop_take]
   ·obtain ⟨q, hq, hkq⟩ := hkp y hy
    by_cases hyi : y = i
    ·subst hyi
     rw [hiH] at hq; cases hq
     exact ⟨_, List.getElem?_set_self (List.getElem?_eq_some_iff.1 hiH).1, by cases fx <;> first | rfl | exact hkq⟩
    ·exact ⟨q, by rw [List.getElem?_set_ne (Ne.symm hyi)]; exact hq, hkq⟩
end
def sortS (l : List (List UInt8)) : List (List UInt8) := l.mergeSort fun x y => decide (x ≤ y)
theorem sortS_length (l : List (List UInt8)) : (sortS l).length = l.length := by unfold sortS; simp
section
variable {P : Program} {kl : List Bool} {n : Nat} {B : Bs} {Q : Qt} {E : Env} {H : List Ob}
theorem Wp.toView {c : Code} (k o : Nat) {T : TypeId} {sz : Nat} {rows : List (List Dt)} (hk : Is (eget E k) (.buf o)) {fx : Bool} (ho : Is (bufAt H o) (some (T, sz, rows, fx))) (hc : Wp P kl n B c Q ((k, .vw o sz 0 rows.length) :: E) H) : Wp P kl n B c Q E H := by
 unfold Is at *
 intro hB a w hR
 obtain ⟨K, G, r1, hS, r3, r4, r5, r6⟩ := hR
 refine hc hB a w ⟨K, G, r1, hS, fun m => ?_, r4, r5, r6⟩
 simp only [eget]
 split
 ·rename_i e
  subst e
  have hv := r3 k
  rw [hk] at hv
  simp only [VR] at hv ⊢
  obtain ⟨g, hg, hcv, a0, n0, cap0, hsv⟩ := hv
  obtain ⟨hlim, xs, hxs, hh⟩ := hS.bufOb ho hg
  rw [hcv]
  rcases hh with ⟨⟨a1, h1⟩, rfl, h3⟩ | ⟨b, cap, cur, fr, h1, h2, h3, h4, h5, h6, h7, h8⟩
  ·exact ⟨g, a1, 0, 0, hg, h1, by simp, a1, 0, h1, by simp, by simp, by simp⟩
  ·exact ⟨g, _, _, cap, hg, h1, by simp, _, cap, h1, h5, by simp, fun _ => ⟨b, h2, rfl, by simp⟩⟩
 ·exact r3 m
end
section
variable {P : Program} {kl : List Bool} {n : Nat} {B : Bs} {Q : Qt} {E : Env} {H : List Ob}
theorem Wp.reob {c : Code} (o : Nat) {x : Ob} (hk : kpf kl o = false) (hx : ∀ K G (w : World) g, St K G H w → G[o]? = some g → ObR K w.heap G g x) (ho : o < H.length) (hc : Wp P kl n B c Q E (H.set o x)) : Wp P kl n B c Q E H := by
 intro hB a w hR
 obtain ⟨K, G, r1, hS, r3, r4, r5, r6⟩ := hR
 have hol : o < G.length := by rw [hS.len]; exact ho
 have hS' : St K G (H.set o x) w := by
  refine ⟨by simp [hS.len], hS.kb, hS.gb, hS.inj, fun i g y hg hy => ?_, hS.tb⟩
  by_cases e : i = o
  ·subst e
   rw [List.getElem?_set_self ho] at hy
   cases hy
   exact hx K G w g hS hg
  ·rw [List.getElem?_set_ne (Ne.symm e)] at hy
   exact hS.ob i g y hg hy
 refine hc hB a w ⟨K, G, r1, hS', r3, r4, r5, fun y hy => ?_⟩
 have hyo : y ≠ o := fun e => by subst e; rw [show kpf kl y = true from hy] at hk; cases hk
 obtain ⟨z, hz, hkz⟩ := r6 y hy
 exact ⟨z, by rw [List.getElem?_set_ne (Ne.symm hyo)]; exact hz, hkz⟩
theorem Wp.toFix {c : Code} (o : Nat) {T : TypeId} {sz : Nat} {rows : List (List Dt)} (ho : Is (obAt H o) (.buf T sz rows)) (hk : kpf kl o = false) (hc : Wp P kl n B c Q E (H.set o (.fx T sz rows))) : Wp P kl n B c Q E H := by
 have hoH := obAt_some ho (by simp)
 exact Wp.reob o (x := .fx T sz rows) hk (fun K G w g hS hg => show ObR K w.heap G g (.buf T sz rows) from hS.ob o g _ hg hoH) (List.getElem?_eq_some_iff.1 hoH).1 hc
theorem Wp.toBuf {c : Code} (o : Nat) {T : TypeId} {sz : Nat} {rows : List (List Dt)} (ho : Is (obAt H o) (.fx T sz rows)) (hk : kpf kl o = false) (hc : Wp P kl n B c Q E (H.set o (.buf T sz rows))) : Wp P kl n B c Q E H := by
 have hoH := obAt_some ho (by simp)
 exact Wp.reob o (x := .buf T sz rows) hk (fun K G w g hS hg => show ObR K w.heap G g (.fx T sz rows) from hS.ob o g _ hg hoH) (List.getElem?_eq_some_iff.1 hoH).1 hc
end
section
variable {P : Program} {kl : List Bool} {n : Nat} {B : Bs} {Q : Qt} {E : Env} {H : List Ob}
theorem Wp.regionQ {id : Nat} {l : List Oper} (h : RgEnd P kl n B l.toArray (Q .normal) (run1 P kl n l l ⟨E, H, True⟩)) : Wp P kl n B (.region id l.toArray false) Q E H := by
 intro hB a w hR
 refine wp_region_lit ?_
 have := Rg.run (ops := l.toArray) (l := l) h
 exact this hB a w _ hR fun E' H' a' w' h1 h2 => ⟨E', H', h1, h2⟩
theorem Wp.seqRW {id : Nat} {l : List Oper} {y : Code} (h : ∀ K : Env → List Ob → Prop, (∀ E H, Wp P kl n B y Q E H → K E H) → (∀ E H E' H', Weak kl E H E' H' → K E' H' → K E H) → RgEnd P kl n B l.toArray K (run1 P kl n l l ⟨E, H, True⟩)) : Wp P kl n B (.seq (.region id l.toArray false) y) Q E H :=
 Wp.seqW fun K hK hW => Wp.regionQ (Q := thenQ K Q) (h K hK hW)
theorem Wp.regionDQ {id : Nat} {os : List Oper} (plan : Plan) (hm : P.follows .mixedOrders = true) (hl : plan.length = os.length) (hp : planB os.toArray plan [] (Array.replicate os.length false) = true)
  (h : Dr P kl n B os.toArray plan [] E H (Q .normal)) : Wp P kl n B (.region id os.toArray true) Q E H := by
 intro hB a w hR
 refine wp_region_any hm ?_
 have hD : DC os.toArray (Array.replicate os.length false) := fun i hi => by
  simp [Array.getD_eq_getD_getElem?, Array.getElem?_replicate] at hi
  split at hi <;> simp at hi
 have h1 := h hB (fun _ he => by cases he) _ hD hp
 rw [hl] at h1
 rw [show os.toArray.size = os.length by simp]
 exact AnyO.sound _ h1 (hR.drew _) fun E' H' a' w' h1 h2 => ⟨E', H', h1, h2⟩
theorem Wp.seqDW {id : Nat} {os : List Oper} {y : Code} (plan : Plan) (hm : P.follows .mixedOrders = true) (hl : plan.length = os.length) (hp : planB os.toArray plan [] (Array.replicate os.length false) = true)
  (h : ∀ K : Env → List Ob → Prop, (∀ E H, Wp P kl n B y Q E H → K E H) → (∀ E H E' H', Weak kl E H E' H' → K E' H' → K E H) → RdEnd P kl n B os.toArray K (runD P kl n os plan ⟨[], E, H, True⟩)) : Wp P kl n B (.seq (.region id os.toArray true) y) Q E H :=
 Wp.seqW fun K hK hW => Wp.regionDQ (Q := thenQ K Q) plan hm hl hp (Dr.run (h K hK hW))
theorem Wp.regDW {id : Nat} {os : List Oper} (plan : Plan) (hm : P.follows .mixedOrders = true) (hl : plan.length = os.length) (hp : planB os.toArray plan [] (Array.replicate os.length false) = true)
  (h : ∀ K : Env → List Ob → Prop, (∀ E H, Q .normal E H → K E H) → (∀ E H E' H', Weak kl E H E' H' → K E' H' → K E H) → RdEnd P kl n B os.toArray K (runD P kl n os plan ⟨[], E, H, True⟩)) : Wp P kl n B (.region id os.toArray true) Q E H := by
 let K : Env → List Ob → Prop := fun E H => B.G0.length = kl.length → ∀ a w, Rel (cx P kl n B) E H a w → ∃ E' H', Q .normal E' H' ∧ Rel (cx P kl n B) E' H' a w
 have h1 := Wp.regionDQ (id := id) (Q := thenQ K Q) plan hm hl hp (Dr.run (h K (fun E H hq _ a w hR => ⟨E, H, hq, hR⟩) (fun E H E' H' hw hk hB a w hR => hk hB a w (Rel.cut hB hR hw))))
 intro hB a w hR
 refine wp_mono (h1 hB a w hR) ?_
 intro e a' w' ⟨E', H', hq, hR'⟩
 cases e <;> first | exact hq hB a' w' hR' | exact ⟨E', H', hq, hR'⟩
end
section
variable {P : Program} {kl : List Bool} {n : Nat} {B : Bs} {K : Env → List Ob → Prop} {E : Env} {H : List Ob}
theorem Rg.skipG {ops : Array Oper} {o : Oper} {l : List Oper} {v : Va} {gw : Nat × Bool} (hg : Is o.guard (some gw)) (hb : Is (guardX ops.toList E o) (some false)) (hd : dstOk n o.dst)
  (cont : RgEnd P kl n B ops K (run1 P kl n ops.toList l ⟨eput E o.dst (.cnd false v), H, True⟩)) : Rg P kl n B ops (o :: l) E H K := by
 unfold Is guardX at *
 obtain ⟨j, want⟩ := gw
 rw [hg] at hb
 intro hB a w Q hR hK
 have hw := guardB_ok hR hg hb
 refine wpList_step fun K' hK' => ?_
 rw [if_neg (by rw [hw]; simp)]
 obtain ⟨Kk, G, hX, hS, hE, hdf, hn, hkp⟩ := hR
 have hRV : RelV (cx P kl n B) E H undef (.cnd false v) a w := ⟨Kk, G, hX, hS, hE, hdf, hn, hkp, by simp [VR]⟩
 exact hK' _ _ (Rg.run cont hB _ _ _ (hRV.put o.dst (dstOk_lt hd)) hK)
def reSkip (ops : List Oper) (o : Oper) (E : Env) (v : Va) (po : Option Nat) (_ : List Ob) : Prop := agL ops o E (.cnd false v) po
theorem Dr.skipG {ops : List Oper} {l : Plan} {obs : List En} {k : Nat} {o : Oper} {v : Va} {gw : Nat × Bool} (hk : Is ops[k]? (some o)) (hg : Is o.guard (some gw)) (hb : Is (guardX ops E o) (some false)) (hd : dstOk n o.dst)
  (cont : RdEnd P kl n B ops.toArray K (runD P kl n ops l ⟨⟨k, E, .cnd false v, reSkip ops o E v⟩ :: obs, eput E o.dst (.cnd false v), H, True⟩)) : Dr P kl n B ops.toArray (.rd k l) obs E H K := by
 unfold Is guardX at *
 obtain ⟨j, want⟩ := gw
 rw [hg] at hb
 have h' := Dr.run cont
 simp only at h'
 rw [← dst_eq hk] at h'
 have hrd : ∀ H', Rdr P kl n B ops.toArray k E (.cnd false v) H' := by
  intro H' E' hE' a w Q K' hR hKK
  rw [dst_eq hk] at hKK
  have hb' : guardB ops.toArray.toList E j want = some false := by simpa using hb
  rw [← guardB_congr (getA hk) hg hE'] at hb'
  have hw := guardB_ok hR hg hb'
  unfold wpOp
  simp only [getA hk]
  rw [if_neg (by rw [hw]; simp)]
  obtain ⟨Kk, G, hX, hS, hE, hdf, hn, hkp⟩ := hR
  exact hKK _ _ (RelV.put (C := cx P kl n B) (v := .cnd false v) ⟨Kk, G, hX, hS, hE, hdf, hn, hkp, by simp [VR]⟩ o.dst (dstOk_lt hd))
 exact Dr.read (fun _ => hrd _) (fun _ po H' hre => ⟨hrd _, agL_ok hk hre⟩) h'
end
attribute [go_sem] reSkip
attribute [go_sem] sortS_length Option.getD_none Option.getD_some Nat.sub_zero Nat.zero_add List.drop_zero
end Go.Vc
/- In a region that draws its order: calls that are lent data and hand back a new growing slice; what stands under a guard. -/
set_option linter.unusedSectionVars false
namespace Go.Vc
variable [Tabs]

def Dt.flat : Dt → Bool
 | .l _ => false
 | _ => true
def flatR : List Dt → Bool
 | [] => true
 | d :: ds => d.flat && flatR ds
def flatRs (rows : List (List Dt)) : Prop := ∀ r ∈ rows, flatR r = true
theorem flatRs_map {α : Type} {e : α → List Dt} (h : ∀ x, flatR (e x) = true) (l : List α) : flatRs (List.map e l) := fun r hr => by
 obtain ⟨x, _, rfl⟩ := List.mem_map.1 hr
 exact h x
section
variable {K K' : Nat → Prop} {h h' : Array Obj}
theorem DR.flat {c : Value} : ∀ {d : Dt}, d.flat = true → DR K h c d → DR K' h' c d
 | .b _, _, hd => by simpa only [DR] using hd
 | .i _ _, _, hd => by simpa only [DR] using hd
 | .s _, _, hd => by simpa only [DR] using hd
 | .l _, hf, _ => by simp [Dt.flat] at hf
theorem DRs.flat : ∀ {ds : List Dt} {vs : List Value}, flatR ds = true → DRs K h vs ds → DRs K' h' vs ds
 | [], _, _, hd => by simpa only [DRs] using hd
 | d :: ds, vs, hf, hd => by
  simp only [flatR, Bool.and_eq_true] at hf
  simp only [DRs] at *
  obtain ⟨v, vs', e, h1, h2⟩ := hd
  exact ⟨v, vs', e, DR.flat hf.1 h1, DRs.flat hf.2 h2⟩
theorem DRss.flat {sz : Nat} : ∀ {rows : List (List Dt)} {vs : List Value}, flatRs rows → DRss K h sz vs rows → DRss K' h' sz vs rows
 | [], _, _, hd => by simpa only [DRss] using hd
 | r :: rows, vs, hf, hd => by
  simp only [DRss] at *
  obtain ⟨a, b, e, h1, h2, h3⟩ := hd
  exact ⟨a, b, e, h1, DRs.flat (hf r (by simp)) h2, DRss.flat (fun r' h' => hf r' (by simp [h'])) h3⟩
end
theorem ObR.flatBuf {K K' : Nat → Prop} {h : Array Obj} {G G' : List Gh} {g : Gh} {T : TypeId} {sz : Nat} {rows : List (List Dt)} (hf : flatRs rows) (hx : ObR K h G g (.buf T sz rows)) : ObR K' h G' g (.buf T sz rows) := by
 obtain ⟨h1, xs, h2, h3⟩ := hx
 exact ⟨h1, xs, DRss.flat hf h2, h3⟩
theorem St.push1 {K : Nat → Prop} {G : List Gh} {H : List Ob} {w : World} {g : Gh} {x : Ob} (hS : St K G H w) (hx : ObR K w.heap (G ++ [g]) g x)
  (hb : ∀ b, g.blk = some b → b < w.heap.size ∧ ¬ K b ∧ ∀ (o : Nat) (g' : Gh), G[o]? = some g' → g'.blk ≠ some b) : St K (G ++ [g]) (H ++ [x]) w := by
 have cs : ∀ {o : Nat} {g' : Gh}, (G ++ [g])[o]? = some g' → (o < G.length ∧ G[o]? = some g') ∨ (o = G.length ∧ g' = g) := by
  intro o g' h
  rcases Nat.lt_or_ge o G.length with h1 | h1
  ·rw [List.getElem?_append_left h1] at h; exact .inl ⟨h1, h⟩
  ·rw [List.getElem?_append_right h1] at h
   rcases Nat.eq_zero_or_pos (o - G.length) with h2 | h2
   ·rw [h2] at h; simp at h; exact .inr ⟨by omega, h.symm⟩
   ·rw [List.getElem?_eq_none (by simp; omega)] at h; cases h
 refine ⟨by simp [hS.len], hS.kb, fun o g' b hg hgb => ?_, fun o o' g1 g2 b h1 h2 hb1 hb2 => ?_, fun o g' y hg hy => ?_, hS.tb⟩
 ·rcases cs hg with ⟨_, h⟩ | ⟨_, rfl⟩
  ·exact hS.gb o g' b h hgb
  ·exact ⟨(hb b hgb).1, (hb b hgb).2.1⟩
 ·rcases cs h1 with ⟨_, e1⟩ | ⟨e1, rfl⟩ <;> rcases cs h2 with ⟨_, e2⟩ | ⟨e2, rfl⟩
  ·exact hS.inj o o' g1 g2 b e1 e2 hb1 hb2
  ·exact absurd hb1 ((hb b hb2).2.2 o g1 e1)
  ·exact absurd hb2 ((hb b hb1).2.2 o' g2 e2)
  ·omega
 ·rcases cs hg with ⟨hl, h⟩ | ⟨rfl, rfl⟩
  ·rw [List.getElem?_append_left (by rw [← hS.len]; exact hl)] at hy
   exact ObR.keep ⟨fun _ h => h, fun _ _ => rfl⟩ (f := fun _ => true) (fun q g0 _ hq => by rw [List.getElem?_append_left (List.getElem?_eq_some_iff.1 hq).1]; exact hq) (fun _ _ => rfl) (Ob.all_true _) (hS.ob o g' y h hy)
  ·rw [hS.len, List.getElem?_append_right (Nat.le_refl _)] at hy
   simp at hy
   subst hy
   exact hx
section
variable {P : Program} {kl : List Bool} {n : Nat} {B : Bs} {K : Env → List Ob → Prop} {E : Env} {H : List Ob}
theorem callLN_wp {o : Oper} {c : Call} {fop : Operand} {f : FuncId} {caps args : List Va} {T : TypeId} {sz : Nat} {rows : List (List Dt)} (hs : Does P f args [] fun r X => r = .buf 0 ∧ X = [.buf T sz rows]) (hfl : flatRs rows) (ho : o.op = .call c) (hc : c.callee = .value fop)
  (hok : opOk true E fop ∧ allOk true E c.args.toList) (hf : opnd E fop = .fn f caps) (hp : lendVs H (opnds E c.args.toList ++ caps) = some args) {a : Act} {w : World} {Q : Exit → Act → World → Prop} {K' : Act → World → Prop} (hR : Rel (cx P kl n B) E H a w)
  (hK : ∀ c' w', RelV (cx P kl n B) E (H ++ [.buf T sz rows]) c' (.buf H.length) a w' → K' (a.put o.dst c') w') : o.wp P a w K' Q := by
 obtain ⟨Kk, G, hX, hS, hE, hdf, hn, hkp⟩ := hR
 have hvf := opnd_ok hE rfl fop hok.1
 rw [hf] at hvf
 simp only [VR] at hvf
 obtain ⟨cs, hcs, hcv⟩ := hvf
 have hargs := opnds_ok hE rfl c.args.toList hok.2
 have hall := lendVs_ok hS hp (hargs.append hcv)
 unfold Oper.wp
 rw [enter_run ho hc hcs hs.1]
 simp only [Oper.upon]
 refine (hs.2 (withG Kk G) [] w _ (St.nil (withG_lt hS) (hS.tb.mono ⟨fun _ h => .inl h, fun _ _ => rfl⟩)) hall).mono ?_
 rintro e w' ⟨c', r, X', K1, G1, rfl, ⟨rfl, rfl⟩, hX1, hS1, hv, _⟩
 have fr : ∀ b, b < w.heap.size → w'.heap[b]? = w.heap[b]? := fun b hb => hX1.frame b hb (fun o g0 h => by simp at h)
 have hA := hS.after hX1
 simp only [VR] at hv
 obtain ⟨g, hg, rfl, hgo⟩ := hv
 have hgl : G1 = [g] := by
  have hl := hS1.len
  match G1, hl, hg with
  | [g'], _, hg => simp at hg; rw [hg]
 subst hgl
 have hbn : ∀ b, g.blk = some b → w.heap.size ≤ b ∧ b < w'.heap.size := fun b hb => ⟨hX1.gnew 0 g b (by simp) hg hb, (hS1.gb 0 g b hg hb).1⟩
 have hx := hS1.ob 0 g (.buf T sz rows) hg rfl
 have hS2 : St Kk (G ++ [g]) (H ++ [.buf T sz rows]) w' := hA.push1 (ObR.flatBuf hfl hx) fun b hb => ⟨(hbn b hb).2, fun hk => by have := hS.kb b hk; have := (hbn b hb).1; omega, fun o' g' h' e => by have := (hS.gb o' g' b h' e).1; have := (hbn b hb).1; omega⟩
 have hMg : Mg (fun _ => true) G (G ++ [g]) := fun q g0 _ hq => by rw [List.getElem?_append_left (List.getElem?_eq_some_iff.1 hq).1]; exact hq
 have cs : ∀ {o : Nat} {g' : Gh}, (G ++ [g])[o]? = some g' → (o < G.length ∧ G[o]? = some g') ∨ (o = G.length ∧ g' = g) := by
  intro o g' h
  rcases Nat.lt_or_ge o G.length with h1 | h1
  ·rw [List.getElem?_append_left h1] at h; exact .inl ⟨h1, h⟩
  ·rw [List.getElem?_append_right h1] at h
   rcases Nat.eq_zero_or_pos (o - G.length) with h2 | h2
   ·rw [h2] at h; simp at h; exact .inr ⟨by omega, h.symm⟩
   ·rw [List.getElem?_eq_none (by simp; omega)] at h; cases h
 have hX2 : Ext (kpf kl) B.K0 B.G0 B.w0 Kk (G ++ [g]) w' := by
  refine hX.trans ⟨hX1.os, hX1.tape, hX1.output, hX1.size, fun _ h => h, fun _ h => .inl h, by simp, fun o' g0 g' b h0 h1 hb => ?_, fun o' g' b ho' h1 hb => ?_, fun o' g0 _ h0 => hMg o' g0 rfl h0, fun b hb _ => fr b hb⟩
  ·rcases cs h1 with ⟨_, h⟩ | ⟨h, rfl⟩
   ·rw [h0] at h; cases h; exact .inl hb
   ·have := (List.getElem?_eq_some_iff.1 h0).1; omega
  ·rcases cs h1 with ⟨h, _⟩ | ⟨_, rfl⟩
   ·omega
   ·exact (hbn b hb).1
 refine hK g.sv w' ⟨Kk, G ++ [g], hX2, hS2, fun m => VR.keep (f := fun _ => true) ⟨fun _ h => h, fun b hb => fr b (hS.kb b hb)⟩ hMg _ _ (Va.all_true _) (hE m), hdf, hn, fun y hy => ?_, ?_⟩
 ·obtain ⟨z, hz, hk⟩ := hkp y hy
  exact ⟨z, by rw [List.getElem?_append_left (List.getElem?_eq_some_iff.1 hz).1]; exact hz, hk⟩
 ·simp only [VR]
  exact ⟨g, by rw [← hS.len]; simp, rfl, hgo⟩
end
section
variable {P : Program} {kl : List Bool} {n : Nat} {B : Bs} {ops : List Oper} {K : Env → List Ob → Prop} {l : Plan} {obs : List En} {E : Env} {H : List Ob}
theorem Br.callLN {k : Nat} {L : List Nat} {f : FuncId} {av args : List Va} {o : Oper} {T : TypeId} {sz : Nat} {rows : List (List Dt)} (hs : Does P f args [] fun r X => r = .buf 0 ∧ X = [.buf T sz rows]) (hfl : flatRs rows) (hk : Is ops[k]? (some o)) (ha : Is (callArgsX E o) (some (f, av))) (hb : Is (guardX ops E o) (some true)) (hp : Is (lendVs H av) (some args)) (hok : callOk n true E o)
  (hag : againAll L none (H ++ [.buf T sz rows]) obs)
  (cont : RdEnd P kl n B ops.toArray K (runD P kl n ops l ⟨obs, eput E o.dst (wrapG o.guard true (.buf H.length)), H ++ [.buf T sz rows], True⟩)) : Br P kl n B ops.toArray k L l obs E H K := by
 unfold Is at *
 unfold callArgsX at ha
 split at ha
 rotate_left
 ·cases ha
 rename_i c h1
 split at ha
 rotate_left
 ·cases ha
 rename_i fop h3
 split at ha
 rotate_left
 ·cases ha
 rename_i f' caps h4
 cases ha
 obtain ⟨hd, hk1, hk2⟩ := callOk_spec hok h1 h3
 have h' := Dr.run cont
 simp only at h'
 rw [← dst_eq hk] at h'
 refine Br.eff (po := none) (fun _ => ?_) hag h'
 intro E' hE' a w Q K' hR hK
 have hop := looks_op (getA hk) hE'
 rw [h1] at hop
 have hfo : rnd E fop = rnd E' fop := hop fop (by simp [Op.operands, Call.operands, h3])
 have hag' : Agree c.args.toList E E' := fun x hx => hop x (by simp only [Op.operands, Call.operands, Array.toList_append, List.mem_append]; exact .inr hx)
 rw [Agree.opOk hfo] at hk1
 rw [Agree.allOk hag'] at hk2
 rw [Agree.opnd hfo] at h4
 rw [Agree.opnds hag'] at hp
 rw [dst_eq hk] at hK
 unfold wpOp
 simp only [getA hk]
 unfold guardX at hb
 cases hgd : o.guard with
 | none =>
  rw [hgd] at hb hK
  rw [if_pos (by simp [Region.wanted, hgd])]
  exact .inl (callLN_wp hs hfl h1 h3 ⟨hk1, hk2⟩ h4 hp hR fun c' w' hRV => hK _ _ (hRV.put o.dst (dstOk_lt hd)))
 | some gw =>
  obtain ⟨j, want⟩ := gw
  rw [hgd] at hb hK
  have hb' : guardB ops.toArray.toList E j want = some true := by simpa using hb
  rw [← guardB_congr (getA hk) hgd hE'] at hb'
  have hw := guardB_ok hR hgd hb'
  rw [if_pos hw]
  exact .inl (callLN_wp hs hfl h1 h3 ⟨hk1, hk2⟩ h4 hp hR fun c' w' hRV => hK _ _ (RelV.put (v := .cnd true _) (by
   obtain ⟨Kk, G, q1, q2, q3, q4, q5, q6, q7⟩ := hRV
   exact ⟨Kk, G, q1, q2, q3, q4, q5, q6, by simp only [VR]; exact ⟨fun _ => q7, fun e => Bool.noConfusion e⟩⟩) o.dst (dstOk_lt hd)))
theorem Br.skipG {k : Nat} {L : List Nat} {o : Oper} {v : Va} {gw : Nat × Bool} (hk : Is ops[k]? (some o)) (hg : Is o.guard (some gw)) (hb : Is (guardX ops E o) (some false)) (hd : dstOk n o.dst)
  (cont : RdEnd P kl n B ops.toArray K (runD P kl n ops l ⟨obs, eput E o.dst (.cnd false v), H, True⟩)) : Br P kl n B ops.toArray k L l obs E H K := by
 unfold Is guardX at *
 obtain ⟨j, want⟩ := gw
 rw [hg] at hb
 have h' := Dr.run cont
 simp only at h'
 rw [← dst_eq hk] at h'
 exact Br.skip (fun _ => rdr_skip hk hg hb hd) h'
theorem Br.runT {k : Nat} {L : List Nat} {o : Oper} {gw : Nat × Bool} (hk : Is ops[k]? (some o)) (hg : Is o.guard (some gw)) (hb : Is (guardX ops E o) (some true)) (h : RdEnd P kl n B ops.toArray K (runD P kl n ops l (dEffG n o L (effP E o.op) ⟨obs, E, H, True⟩ (effV P (kpf kl) E H o.op)))) : Br P kl n B ops.toArray k L l obs E H K := by
 unfold Is guardX at *
 obtain ⟨j, want⟩ := gw
 rw [hg] at hb
 have hok := (runD_prev h).2
 have h' := Dr.run h
 simp only [dEffG] at h'
 rw [← dst_eq hk] at h'
 exact Br.eff (fun _ => efr_okG (getA hk) hg (by simpa using hb) hok.1 hok.2.1) hok.2.2 h'
end
attribute [go_sem] Option.toArray Array.toList_append
end Go.Vc
/- Sorts, out of the library's proved contracts: a growing slice of strings sorted in place; the keys of a map, sorted. -/
set_option linter.unusedSectionVars false
set_option linter.unusedVariables false
namespace Go.Vc
open Go.Proofs Go.Shelf
variable [Tabs]

section
variable {P : Program} {ρ : Ren}
theorem strs_row {K : Nat → Prop} {h : Array Obj} : ∀ {l : List (List UInt8)} {xs : List Value}, DRss K h 1 xs (l.map fun x => [Dt.s x]) → xs = l.map encStr ∧ ∀ x ∈ l, x.length ≤ Lim
 | [], xs, H => by simp only [List.map_nil, DRss] at H; subst H; exact ⟨rfl, by simp⟩
 | x :: l, xs, H => by
  simp only [List.map_cons, DRss] at H
  obtain ⟨a, b, rfl, _, h1, h2⟩ := H
  simp only [DRs, DR] at h1
  obtain ⟨v, vs', rfl, ⟨rfl, h3⟩, rfl⟩ := h1
  obtain ⟨rfl, h4⟩ := strs_row h2
  refine ⟨rfl, fun y hy => ?_⟩
  rcases List.mem_cons.1 hy with rfl | hy
  ·exact h3
  ·exact h4 y hy
theorem strs_of {K : Nat → Prop} {h : Array Obj} : ∀ {l : List (List UInt8)}, (∀ x ∈ l, x.length ≤ Lim) → DRss K h 1 (l.map encStr) (l.map fun x => [Dt.s x])
 | [], _ => by simp only [List.map_nil, DRss]
 | x :: l, hl => by
  simp only [List.map_cons, DRss, DRs, DR]
  exact ⟨[encStr x], l.map encStr, rfl, rfl, ⟨_, [], rfl, ⟨rfl, hl x (by simp)⟩, rfl⟩, strs_of fun y hy => hl y (by simp [hy])⟩
theorem Does.sortS (L : SlLaysM.n6 P ρ) (hc : callable P (ρ.f 6)) (T : TypeId) (l : List (List UInt8)) :
  Does P (ρ.f 6) [.buf 0] [.fx T 1 (l.map fun x => [.s x])] (fun r Y => r = .tup [] ∧ Y = [.fx T 1 ((Vc.sortS l).map fun x => [.s x])]) := by
 refine ⟨hc, fun K G w vals hS hV => ?_⟩
 simp only [VRs, VR] at hV
 obtain ⟨c0, r0, rfl, ⟨g, hg, rfl, a0, n0, cap0, hsv0⟩, rfl⟩ := hV
 obtain ⟨hlim, xs, hxs, hh⟩ := hS.ob 0 g _ hg rfl
 obtain ⟨rfl, hle⟩ := strs_row hxs
 simp only [List.length_map] at hlim hh
 have hg0 : G.set 0 g = G := by
  apply List.ext_getElem?
  intro i
  by_cases e : i = 0
  ·subst e; rw [List.getElem?_set_self (List.getElem?_eq_some_iff.1 hg).1, hg]
  ·rw [List.getElem?_set_ne (Ne.symm e)]
 rcases hh with ⟨⟨a, h1⟩, h2, h3⟩ | ⟨b, cap, cur, fr, h1, h2, h3, h4, h5, h6, h7, h8⟩
 ·have hl0 : l = [] := by simpa using h2
  subst hl0
  rw [h1]
  refine (AnyM.slices_Sort_string_none L a 0 w).mono ?_
  rintro e w' ⟨rfl, rfl⟩
  refine ⟨.tuple #[], .tup [], _, K, G, rfl, ⟨rfl, rfl⟩, Ext.refl _ _ _ _, by simpa [Vc.sortS] using hS, ?_, by simpa [Vc.sortS] using kinds_ok [.fx T 1 (([] : List (List UInt8)).map fun x => [Dt.s x])]⟩
  simp only [VR, VRs]; exact ⟨[], rfl, rfl⟩
 ·have hb : b < w.heap.size := (Array.getElem?_eq_some_iff.1 h3).1
  have hcs : cur.size = cap := by simpa using h7
  have hcell : ∀ j, j < l.length → cur[j]? = some (encStr l[j]!) := by
   intro j hj
   have : (cur.toList.take (l.length * 1))[j]? = (l.map encStr)[j]? := by rw [h8]
   rw [List.getElem?_take, if_pos (by omega), Array.getElem?_toList, List.getElem?_map, List.getElem?_eq_getElem hj] at this
   rw [this]
   simp [hj]
  have hH : Sort.Holds encStr w b 0 l.toArray := by
   intro j hj
   have hj' : j < l.length := by simpa using hj
   refine ⟨?_, ?_⟩
   ·rw [Nat.zero_add, cell_of_row w b j cur T fr h3, hcell j hj']
    simp
   ·have := h4.out j (by omega)
    obtain ⟨f1, f2⟩ := fr
    simp only [World.frozen?, h3, Nat.zero_add] at this ⊢
    simpa using this
  rw [h1]
  refine (AnyM.slices_Sort_string L b 0 cap l w hH hb (by simp only [Lim] at hlim; omega)).mono ?_
  rintro e w' ⟨rfl, nn, os, rfl⟩
  have hsl := sortS_length l
  have hget : ∀ i, i < w.heap.size → (Sort.grow (Sort.putRow encStr (Sort.ahead w nn) b 0 (Vc.sortS l).toArray) os).heap[i]? = if b = i then (w.heap[i]?).map (Sort.onCells (Sort.putCells encStr 0 (Vc.sortS l).toArray)) else w.heap[i]? := by
   intro i hi
   show (((w.heap.modify b (Sort.onCells (Sort.putCells encStr 0 (Vc.sortS l).toArray))) ++ os) : Array Obj)[i]? = _
   rw [Array.getElem?_append_left (by simpa using hi), Array.getElem?_modify]
  have hput : (Sort.grow (Sort.putRow encStr (Sort.ahead w nn) b 0 (Vc.sortS l).toArray) os).heap[b]? = some (.cells (Sort.putCells encStr 0 (Vc.sortS l).toArray cur) T fr) := by
   rw [hget b hb, if_pos rfl, h3]; rfl
  have hfr : ∀ i, i < w.heap.size → g.blk ≠ some i → (Sort.grow (Sort.putRow encStr (Sort.ahead w nn) b 0 (Vc.sortS l).toArray) os).heap[i]? = w.heap[i]? := by
   intro i hi hib
   rw [hget i hi, if_neg (fun e => hib (by rw [h2, e]))]
  have hsz : w.heap.size ≤ (Sort.grow (Sort.putRow encStr (Sort.ahead w nn) b 0 (Vc.sortS l).toArray) os).heap.size := by
   show w.heap.size ≤ ((w.heap.modify b _) ++ os : Array Obj).size
   simp
  have hpc : (Sort.putCells encStr 0 (Vc.sortS l).toArray cur).size = cur.size := by simp [Sort.putCells]
  have htake : (Sort.putCells encStr 0 (Vc.sortS l).toArray cur).toList.take ((Vc.sortS l).length * 1) = (Vc.sortS l).map encStr := by
   apply List.ext_getElem?
   intro i
   rw [List.getElem?_take, List.getElem?_map]
   by_cases hi : i < (Vc.sortS l).length
   ·rw [if_pos (by omega), Array.getElem?_toList]
    have : i < cur.size := by omega
    simp [Sort.putCells, this, hi]
   ·rw [if_neg (by omega), List.getElem?_eq_none (by omega)]
    rfl
  have hx : ObR K (Sort.grow (Sort.putRow encStr (Sort.ahead w nn) b 0 (Vc.sortS l).toArray) os).heap (G.set 0 g) g (.fx T 1 ((Vc.sortS l).map fun x => [.s x])) := by
   refine ⟨by simpa [hsl] using hlim, _, strs_of (fun x hx => hle x (by simpa [Vc.sortS] using hx)), .inr ⟨b, cap, _, fr, by rw [h1]; simp [hsl], h2, hput, by rw [hpc]; exact h4, by simpa [hsl] using h5, h6, by rw [hpc]; exact h7, by simpa using htake⟩⟩
  have s1 := hS.modB hg (g1 := g) hsz hfr (fun i hi => ⟨by have := (hS.gb 0 g i hg hi).1; omega, .inl hi⟩) hx
  rw [hg0] at s1
  refine ⟨.tuple #[], .tup [], _, K, G, rfl, ⟨rfl, rfl⟩, ?_, s1, ?_, fun o ho => ?_⟩
  ·have e1 := Ext.modB (K := K) (w := w) (kp := fun _ => false) (w' := Sort.grow (Sort.putRow encStr (Sort.ahead w nn) b 0 (Vc.sortS l).toArray) os) hg rfl rfl rfl rfl hsz hfr (g1 := g) (fun i hi => .inl hi)
   rw [hg0] at e1
   exact { e1 with gsame := fun _ _ _ h0 => h0 }
  ·simp only [VR, VRs]; exact ⟨[], rfl, rfl⟩
  ·cases o with
   | zero => exact ⟨_, rfl, rfl⟩
   | succ o => simp [kinds, kpf] at ho

theorem Does.sortedKeys {ρ' : Ren} (L : SlLaysZ.n6 P ρ) (L10 : SlLaysZ.n10 P ρ') (hc : callable P (ρ.f 6)) (hsorts : ∀ m, AnyZ.SortsIn P ρ Fence.wide m) (e9 : ∀ args w, (callFunc (ρ.f 9) args).run P w = .ok (.enter (ρ.f 9) args) w) (eg : ∀ args w, (callFunc (ρ'.f 10) args).run P w = .ok (.enter (ρ'.f 10) args) w)
  (ht : ρ'.t 26 = ρ.t 26) {V : Type} (M : TypeId) (ag : Bool) (e : V → List Dt) (l : List (List UInt8 × V)) :
  Does P (ρ.f 6) [.fn (ρ'.f 10) [.ptr 0 0]] [.cells M [.mp 1], .mp ag (encM Dt.s e l)] (fun r Y => r = .p (.l ((Vc.sortS (l.map (·.1))).map fun x => [.s x])) ∧ Y = [.cells M [.mp 1], .mp ag (encM Dt.s e l)]) := by
 refine ⟨hc, fun K G w vals hS hV => ?_⟩
 simp only [VRs, VR] at hV
 obtain ⟨c0, r0, rfl, ⟨cs, rfl, c1, r1, rfl, ⟨g0, b0, hg0, hb0, rfl⟩, rfl⟩, rfl⟩ := hV
 obtain ⟨b0', cc, q1, q2, q3⟩ := hS.ob 0 g0 _ hg0 rfl
 obtain rfl : b0 = b0' := Option.some.inj (hb0.symm.trans q1)
 simp only [VRs, VR] at q3
 obtain ⟨c2, r2, rfl, ⟨g1, b1, hg1, hb1, rfl⟩, rfl⟩ := q3
 obtain ⟨hlim, b1', mes, clock, p1, p2, p3, p4⟩ := hS.ob 1 g1 _ hg1 rfl
 obtain rfl : b1 = b1' := Option.some.inj (hb1.symm.trans p1)
 have hst := P.underlying (ρ'.t 26)
 have hk : P.underlying (ρ'.t 26) = some .string := L10.t26
 -- how the entries read
 let R : Value → Option (DataW Unit × List MemPlace) := fun _ => some (.lit (.bool true), [])
 have hent : ∀ (ms : List MapEntry) (ll : List (List UInt8 × V)), MRs K w.heap ag ms (encM Dt.s e ll) → (∀ x ∈ ms, ∃ y, WideElems.rd P (ρ'.t 26) R x = some y) ∧ (ms.map (WideElems.rg P (ρ'.t 26) R)).map (fun p => Go.strOf p.1) = ll.map (·.1) ∧ (∀ y ∈ ll, y.1.length ≤ Lim) := by
  intro ms
  induction ms with
  | nil => intro ll h; cases ll with
   | nil => simp
   | cons y ll => simp [encM, MRs] at h
  | cons x ms ih => intro ll h; cases ll with
   | nil => simp [encM, MRs] at h
   | cons y ll =>
    simp only [encM, List.map_cons, MRs] at h
    obtain ⟨h1, h2, h3⟩ := h
    obtain ⟨i1, i2, i3⟩ := ih ll h3
    simp only [DR] at h1
    have hrd : WideElems.rd P (ρ'.t 26) R x = some (.string y.1, .lit (.bool true)) := by
     have hl : y.1.length ≤ maxLen := by have := h1.2; simp only [Lim, maxLen] at *; omega
     unfold WideElems.rd
     rw [h1.1, WideMaps.keyOf_string_mk hk (by simpa [ByteArray.size] using hl)]
     simp [R]
    refine ⟨fun z hz => ?_, ?_, fun z hz => ?_⟩
    ·rcases List.mem_cons.1 hz with rfl | hz
     ·exact ⟨_, hrd⟩
     ·exact i1 z hz
    ·simp only [List.map_cons, i2, WideElems.rg_of hrd]
     rfl
    ·rcases List.mem_cons.1 hz with rfl | hz
     ·exact h1.2
     ·exact i3 z hz
 obtain ⟨hrd, hkeys, hkl⟩ := hent mes.toList l p3
 have hlen : mes.size = l.length := by have := p3.length; simpa [encM] using this
 have hlim' : mes.size ≤ Lim := by rw [hlen]; simpa [encM] using hlim
 let D0 : DataW Unit := .map ((mes.toList.map (WideElems.rg P (ρ'.t 26) R)).foldr DataW.insert [])
 have hown : w.ownsMap P (ρ'.t 26) R b1 mes.size D0 := ⟨mes, clock, p2, ⟨by simp only [Lim, maxLen] at *; omega, p4, hrd⟩, Nat.le_refl _, rfl⟩
 have hperm : (strKeys D0).Perm (l.map (·.1)) := by
  show (((mes.toList.map (WideElems.rg P (ρ'.t 26) R)).foldr DataW.insert []).map fun p => Go.strOf p.1).Perm _
  rw [← hkeys]
  exact (WideShapes.sorted_perm _).map _
 have hsz0 : Maps.size D0 = mes.size := by
  show ((mes.toList.map (WideElems.rg P (ρ'.t 26) R)).foldr DataW.insert []).length = _
  rw [(WideShapes.sorted_perm _).length_eq]
  simp
 have hb0lt : b0 < w.heap.size := (Array.getElem?_eq_some_iff.1 q2).1
 have hseq : SeqGives Fence.wide 2 P (ρ'.f 10) #[.pointer (some ⟨b0, 0, none⟩)] encStr (fun ss => ss.Perm (strKeys D0)) (Maps.size D0) w :=
  AnyZ.keys_gives (ρ := ρ') L10 Fence.wide _ trivial rfl (by omega) b0 b1 mes.size D0 w hb0lt (by rw [cell_of_row w b0 0 _ M (0, 0) q2]; rfl) hown
 have hmain := AnyZ.sorted_in L Fence.wide 5 trivial trivial trivial trivial rfl (by omega) (hsorts _) e9 (ρ'.f 10) #[.pointer (some ⟨b0, 0, none⟩)] trivial eg _ (Maps.size D0) (by rw [hsz0]; simp only [Lim, maxLen] at *; omega) (by rw [hsz0]; simp only [Lim] at *; omega) w hseq
 refine ((callsIn_wide (n := 5)).1 hmain).mono ?_
 rintro ee w' ⟨v, ss, rfl, hss, hrow, hnil, hB⟩
 have hsort : ss.mergeSort (fun x y => decide (x ≤ y)) = Vc.sortS (l.map (·.1)) := mergeSort_of_perm (hss.trans hperm)
 have hsl : ss.length = (Vc.sortS (l.map (·.1))).length := by rw [← hsort]; simp
 rw [hsort] at hrow
 have hstr : ∀ x ∈ Vc.sortS (l.map (·.1)), x.length ≤ Lim := fun x hx => by
  have : x ∈ l.map (·.1) := by simpa [Vc.sortS] using hx
  obtain ⟨y, hy, rfl⟩ := List.mem_map.1 this
  exact hkl y hy
 have hfr : ∀ k, k < w.heap.size → w'.heap[k]? = w.heap[k]? := hB.block
 obtain ⟨hrl, hrow⟩ := hrow
 -- the result's block is new
 let K' : Nat → Prop := fun b => K b ∨ ∃ a n c, v = .slice (some a) n c ∧ a.block = b
 have hnew : ∀ b, K' b → K b ∨ (w.heap.size ≤ b ∧ b < w'.heap.size) := by
  intro b hb
  rcases hb with hb | ⟨a, nn, c, hv, rfl⟩
  ·exact .inl hb
  ·rcases hrow with ⟨hv', _⟩ | ⟨g, cap, cur, hv', h1, h2, _⟩
   ·rw [hv] at hv'; cases hv'
   ·rw [hv] at hv'; cases hv'
    exact .inr ⟨h1, (Array.getElem?_eq_some_iff.1 h2).1⟩
 have hMn : Mn K K' w.heap w'.heap := ⟨fun _ h => .inl h, fun b hb => hfr b (hS.kb b hb)⟩
 refine ⟨v, _, _, K', G, rfl, ⟨rfl, rfl⟩, { Ext.refl (kpf (kinds [.cells M [.mp 1], .mp ag (encM Dt.s e l)])) K G w with os := hB.os, tape := hB.tape, output := hB.output, size := hB.size, k := fun _ h => .inl h, knew := fun b hb => (hnew b hb).imp id (·.1), frame := fun b hb _ => hfr b hb }, ⟨hS.len, fun b hb => ?_, fun i g b hg hb => ?_, hS.inj, fun i g y hg hy => ?_, hS.tb.mono hMn⟩, ?_, kinds_ok _⟩
 ·rcases hnew b hb with h | h
  ·exact Nat.lt_of_lt_of_le (hS.kb b h) hB.size
  ·exact h.2
 ·have h1 := hS.gb i g b hg hb
  refine ⟨Nat.lt_of_lt_of_le h1.1 hB.size, fun hk => ?_⟩
  rcases hnew b hk with h | h
  ·exact h1.2 h
  ·omega
 ·exact ObR.keep hMn (Mg.refl (fun _ => true) G) (fun b hb => hfr b (hS.gb i g b hg hb).1) (Ob.all_true _) (hS.ob i g y hg hy)
 ·simp only [VR, DR]
  rcases hrow with ⟨hv, h0⟩ | ⟨g, cap, cur, hv, h1, h2, h3, h4, h5, h6⟩
  ·refine .inl ⟨⟨none, hv⟩, ?_⟩
   have : (Vc.sortS (l.map (·.1))) = [] := List.length_eq_zero_iff.1 (by omega)
   rw [this]; rfl
  ·refine .inr ⟨g, 0, cap, cur, _, (0, 0), 1, (Vc.sortS (l.map (·.1))).map encStr, by rw [hv, List.length_map, hsl], .inr ⟨_, _, _, hv, rfl⟩, h2, by rw [List.length_map, ← hsl]; exact h3, ?_, fun j x hj => ?_, strs_of hstr⟩
   ·rw [List.length_map, sortS_length, List.length_map]; omega
   ·rw [← h6, List.getElem?_take] at hj
    split at hj
    ·rw [Nat.zero_add, ← Array.getElem?_toList]; exact hj
    ·cases hj
end
end Go.Vc
/- strings.Trim at a cutset of ASCII bytes, out of the kit's contract. -/
set_option linter.unusedVariables false
set_option linter.unusedSectionVars false
namespace Go.Vc
open Go.Proofs Go.Shelf Go.RowKit
variable [Tabs] {P : Program} {ρ : Ren}
theorem Does.below {f : FuncId} {args : List Va} {r : Va} (hc : callable P f)
  (h : ∀ (K : Nat → Prop) (w : World) vals, TabOk K w.heap → VRs K w.heap [] vals args → Calls P f vals.toArray w fun e w' => ∃ v, e = .returned v ∧ Below w.heap.size w w' ∧ VR K w'.heap [] v r) :
  Does P f args [] fun r' X => r' = r ∧ X = [] := by
 refine ⟨hc, fun K G w vals hS hV => ?_⟩
 have hG : G = [] := List.eq_nil_of_length_eq_zero (by have := hS.len; simpa using this)
 subst hG
 refine (h K w vals hS.tb hV).mono ?_
 rintro e w' ⟨v, rfl, hB, hv⟩
 have hM : Mn K K w.heap w'.heap := ⟨fun _ h => h, fun b hb => hB.block b (hS.kb b hb)⟩
 refine ⟨v, r, [], K, [], rfl, ⟨rfl, rfl⟩, { Ext.refl (kpf (kinds [])) K [] w with os := hB.os, tape := hB.tape, output := hB.output, size := hB.size, frame := fun b hb _ => hB.block b hb },
  ⟨rfl, fun b hb => Nat.lt_of_lt_of_le (hS.kb b hb) hB.size, fun o g b hg => by simp at hg, fun o o' g g' b hg => by simp at hg, fun o g x hg => by simp at hg, hS.tb.mono hM⟩, hv, kinds_ok []⟩
theorem trimS_le (s cs : List UInt8) : (Lib.trimS s cs).length ≤ s.length := by
 unfold Lib.trimS Lib.trimLeftS Lib.trimRightS
 have h1 := (List.dropWhile_sublist (cs.contains ·) (l := (s.reverse.dropWhile (cs.contains ·)).reverse)).length_le
 have h2 := (List.dropWhile_sublist (cs.contains ·) (l := s.reverse)).length_le
 simp only [List.length_reverse] at h1 h2
 omega
theorem Does.trim (L : Lays.n160 P ρ) (h116 : (P.info? (ρ.t 116)).map (fun i => (i.zero, i.size)) = some (some (.agg (Array.replicate 256 (.bool false))), 256)) (hc : callable P (ρ.f 160)) (s cut : List UInt8) (hcs : cut.length < 4294967281) (ha : ∀ c ∈ cut, c.toNat < 128) :
  Does P (ρ.f 160) [.p (.s s), .p (.s cut)] [] fun r X => r = .p (.s (Lib.trimS s cut)) ∧ X = [] := by
 refine Does.below hc fun K w vals _ hV => ?_
 simp only [VRs, VR, DR] at hV
 obtain ⟨c0, r0, rfl, ⟨rfl, hs⟩, c1, r1, rfl, ⟨rfl, hl⟩, rfl⟩ := hV
 have hd : ∀ l : List UInt8, (⟨l.toArray⟩ : ByteArray).data.toList = l := fun l => by simp
 have hz : ∀ l : List UInt8, (⟨l.toArray⟩ : ByteArray).size = l.length := fun l => by simp [ByteArray.size]
 refine (Any.strings_Trim_laid L h116 ⟨s.toArray⟩ ⟨cut.toArray⟩ w (by rw [hz]; simp only [Lim] at hs; omega) (by rw [hz]; exact hcs) (fun j b hb => ha b (by rw [hd] at hb; exact List.mem_of_getElem? hb))).mono ?_
 rintro e w' ⟨rfl, hB⟩
 refine ⟨_, rfl, hB, ?_⟩
 simp only [VR, DR]
 exact ⟨trivial, Nat.le_trans (trimS_le s cut) hs⟩
end Go.Vc
/- strconv.Atoi, out of the kit's contracts: its number; the error is left open. -/
set_option linter.unusedVariables false
set_option linter.unusedSectionVars false
namespace Go.Vc
open Go.Proofs Go.Shelf Go.RowKit
variable [Tabs] {P : Program} {ρ ρ' : Ren}
def atoiN (s : List UInt8) : Int := (Lib.atoi s).getD 0
theorem Does.atoi (L : Lays.n172 P ρ) (L' : LaysC.n172 P ρ') (hf : ρ.f 172 = ρ'.f 172) (hE : Tabs.ifc (ρ'.g 15) = true) (hc : callable P (ρ.f 172)) (s : List UInt8) (hs : s.length ≤ 18) :
  Does P (ρ.f 172) [.p (.s s)] [] fun r X => r = .tup [.p (.i .i64 (atoiN s)), .top] ∧ X = [] := by
 refine Does.below hc fun K w vals hT hV => ?_
 simp only [VRs, VR, DR] at hV
 obtain ⟨c0, r0, rfl, ⟨rfl, _⟩, rfl⟩ := hV
 have hd : (⟨s.toArray⟩ : ByteArray).data.toList = s := by simp
 have hz : (⟨s.toArray⟩ : ByteArray).size = s.length := by simp [ByteArray.size]
 cases h : Lib.atoi s with
 | some n =>
  have hb := Lib.atoi_bound h hs
  refine (Any.strconv_Atoi L ⟨s.toArray⟩ n (by rw [hz]; exact hs) (by rw [hd]; exact h) w).mono ?_
  rintro e w' ⟨rfl, t, rfl⟩
  refine ⟨_, rfl, Lib.bytesWorld_below _ _ _, ?_⟩
  simp only [VR, VRs, DR, atoiN, h, Option.getD_some]
  exact ⟨_, rfl, _, _, rfl, ⟨rfl, by simp only [Fits, lo, hi]; omega⟩, _, _, rfl, trivial, rfl⟩
 | none =>
  obtain ⟨_, ev, T, fr, hcell, hev⟩ := hT.2 _ hE
  have hw : w.cell? ⟨ρ'.g 15, 0, none⟩ = some ev := by rw [Lib.cell_of_heap hcell]; rfl
  rw [hf]
  refine (Any.strconv_Atoi_err L' ⟨s.toArray⟩ (by rw [hz]; exact hs) (by rw [hd]; exact h) ev w hw hev).mono ?_
  rintro e w' ⟨N, rfl, _, _, hB⟩
  refine ⟨_, rfl, hB, ?_⟩
  simp only [VR, VRs, DR, atoiN, h, Option.getD_none]
  exact ⟨_, rfl, _, _, rfl, ⟨rfl, by simp only [Fits, lo, hi]; omega⟩, _, _, rfl, trivial, rfl⟩
end Go.Vc
/- strconv.Itoa, out of the kit's contract. -/
set_option linter.unusedVariables false
set_option linter.unusedSectionVars false
namespace Go.Vc
open Go.Proofs Go.Shelf Go.RowKit
variable [Tabs] {P : Program} {ρ : Ren}
theorem Does.itoa (L : LaysM.n171 P ρ) (hc : callable P (ρ.f 171)) {b : Nat} (hg : P.globalNamed "internal/strconv.uint64pow10" = some b) (hT : Tabs.tab b = some (.u64, Lib.pow10Tab)) (n : Int) (h0 : -9223372036854775808 ≤ n) (h1 : n ≤ 9223372036854775807) :
  Does P (ρ.f 171) [.p (.i .i64 n)] [] fun r X => r = .p (.s (Lib.itoa n)) ∧ X = [] := by
 refine Does.below hc fun K w vals hT' hV => ?_
 simp only [VRs, VR, DR] at hV
 obtain ⟨c0, r0, rfl, ⟨rfl, _⟩, rfl⟩ := hV
 obtain ⟨_, ⟨T, fr, hcell⟩, _⟩ := hT'.1 _ _ _ hT
 have htab : Lib.TabIs P w "internal/strconv.uint64pow10" .u64 Lib.pow10Tab := by
  unfold Lib.TabIs World.var?
  rw [hg]; simp [hcell]
 refine (Any.strconv_Itoa L n h0 h1 w htab).mono ?_
 rintro e w' ⟨rfl, k, os, rfl⟩
 refine ⟨_, rfl, Lib.below_grow _ _ (Nat.le_refl _) _ _, ?_⟩
 simp only [VR, DR]
 exact ⟨trivial, by have := Lib.itoa_length_le n h0 h1; simp only [Lim]; omega⟩
end Go.Vc
