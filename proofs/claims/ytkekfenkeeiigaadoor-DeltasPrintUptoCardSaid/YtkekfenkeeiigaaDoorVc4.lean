/- An abstract machine for the model: what it computes on, its operations, the walk of a body, and that all of it is true of the model (part 4). -/
import Derived.Test.YtkekfenkeeiigaaDoorVc3
import Derived.Shelf.Strings.Builder1
/- Functions that put another object in the place of one of the caller's: what they do, how their walk shows it, how a call uses it. -/
set_option linter.unusedSectionVars false
namespace Go.Vc
variable [Tabs]
def hasN : List Nat → Nat → Bool
 | [], _ => false
 | x :: l, i => bif i == x then true else hasN l i
def maskK (ch : List Nat) : Nat → List Bool → List Bool
 | _, [] => []
 | i, b :: l => (b && !hasN ch i) :: maskK ch (i + 1) l
theorem maskK_length (ch : List Nat) : ∀ (i : Nat) (l : List Bool), (maskK ch i l).length = l.length
 | _, [] => rfl
 | i, b :: l => by simp [maskK, maskK_length ch (i + 1) l]
theorem maskK_get (ch : List Nat) : ∀ (i : Nat) (l : List Bool) (o : Nat), kpf (maskK ch i l) o = (kpf l o && !hasN ch (i + o))
 | _, [], o => by simp [maskK, kpf]
 | i, b :: l, 0 => by simp [maskK, kpf]
 | i, b :: l, o + 1 => by simp only [maskK, kpf]; rw [maskK_get ch (i + 1) l o, show i + 1 + o = i + (o + 1) by omega]
theorem maskK_kp {ch : List Nat} {X : List Ob} : kpOk (kpf (maskK ch 0 (kinds X))) X := fun o h => by
 rw [maskK_get, Bool.and_eq_true] at h
 exact kinds_ok X o h.1
def DoesC (P : Program) (f : FuncId) (args : List Va) (X : List Ob) (ch : List Nat) (Post : Va → List Ob → Prop) : Prop :=
 callable P f ∧ ∀ K G w vals, St K G X w → VRs K w.heap G vals args →
  Calls P f vals.toArray w fun e w' => ∃ c r X' K' G', e = .returned c ∧ Post r X' ∧ Ext (kpf (maskK ch 0 (kinds X))) K G w K' G' w' ∧ St K' G' X' w' ∧ VR K' w'.heap G' c r ∧ kpOk (kpf (maskK ch 0 (kinds X))) X'
theorem DoesC.of_wp {P : Program} {f : FuncId} {fn : Func} {code : Code} {args : List Va} {X : List Ob} {Post : Va → List Ob → Prop} (ch : List Nat) (m n : Nat) (rs : List ResultVar) (hf : P.funcs[f]? = some fn) (hb : fn.body = some code) (hnm : (fn.name == "runtime.NumGoroutine") = false) (hn : fn.ntmps = n) (hrs : fn.results.toList = rs) (hl : args.length ≤ n)
  (h : ∀ B, Wp P (maskK ch 0 (kinds X)) n B code (retQ P rs m (maskK ch 0 (kinds X)) Post) (envOf 0 args) X) : DoesC P f args X ch Post := by
 subst hn
 subst hrs
 refine ⟨⟨fn, hf, hnm, by rw [hb]; rfl⟩, fun K G w vals hS hV => ?_⟩
 have hvl := hV.length
 refine calls_of_wp hf hb ?_
 have hB : G.length = (maskK ch 0 (kinds X)).length := by rw [maskK_length, kinds_length, hS.len]
 have hR : Rel (cx P (maskK ch 0 (kinds X)) fn.ntmps ⟨K, G, w⟩) (envOf 0 args) X { tmps := vals.toArray ++ Array.replicate (fn.ntmps - vals.toArray.size) undef, defers := [] } w := by
  refine ⟨K, G, Ext.refl _ _ _ _, hS, fun j => ?_, rfl, by simp; omega, maskK_kp⟩
  have := get_envOf (K := K) (h := w.heap) (G := G) 0 j hV
  simp only [Nat.zero_le, if_true, Nat.sub_zero] at this
  have e : (vals.toArray ++ Array.replicate (fn.ntmps - vals.toArray.size) undef).getD j undef = vals.getD j undef := by
   rw [Array.getD_eq_getD_getElem?, List.getD_eq_getElem?_getD, Array.getElem?_append]
   split
   ·simp
   ·rename_i hj
    rw [List.getElem?_eq_none (by simpa using hj), Array.getElem?_replicate]
    split <;> rfl
  rw [e]; exact this
 refine wp_mono (h ⟨K, G, w⟩ hB _ _ hR) ?_
 intro e a w' ⟨E, H, hq, hR'⟩
 have fin : RetOk P fn.results.toList m (maskK ch 0 (kinds X)) Post E H → a.defers = [] ∧ ∃ v, (results fn a.tmps).run P w' = .ok v w' ∧ ∃ c r X' K' G', Ending.returned v = .returned c ∧ Post r X' ∧ Ext (kpf (maskK ch 0 (kinds X))) K G w K' G' w' ∧ St K' G' X' w' ∧ VR K' w'.heap G' c r ∧ kpOk (kpf (maskK ch 0 (kinds X))) X' := by
  intro hq
  obtain ⟨h1, h2, h3, h4, h5, r, X', h6, h7, h8, h9, h10, h11⟩ := hq
  obtain ⟨K1, G1, hX, hS1, hE, hd, _, hk⟩ := hR'
  obtain ⟨c, hc, hv⟩ := resV_ok (P := P) hS1 hE h1
  have hmk : G.length ≤ m := by rw [hB]; exact h2
  have hMg : Mg (fun o => decide (o < m)) G1 (G1.take m) := fun o g ho hg => by rw [List.getElem?_take, if_pos (by simpa using ho)]; exact hg
  have hv2 : VR (frozenB K1 G1 H m) w'.heap (G1.take m) c (outV m H (resV P E H fn.results.toList).v) := VR.keep ⟨fun _ h => h, fun _ _ => rfl⟩ hMg _ _ h4 (outV_ok hS1 m hv)
  have hS2 := hS1.out h5
  have hS3 := hS2.cut h7 (by rw [h8]; exact h10)
  rw [h8, List.take_take, Nat.min_self] at hS3
  refine ⟨hd, c, hc, c, r, X', frozenB K1 G1 H m, G1.take m, rfl, h11, hX.out hmk, hS3, leV_ok h6 hv2, fun o ho => ?_⟩
  obtain ⟨vs, hvs, hkt⟩ := hk o ho
  have hom : o < m := Nat.lt_of_lt_of_le (kpf_lt ho) h2
  obtain ⟨x, hx, hle⟩ := leH_get h7 o _ (List.getElem?_eq_getElem (by rw [h8]; exact hom))
  obtain ⟨x0, hx0, rfl⟩ := outH_get m H hx
  rw [List.getElem?_take, if_pos hom, hvs] at hx0
  cases hx0
  exact ⟨_, List.getElem?_eq_getElem (by rw [h8]; exact hom), leO_kept hle (by cases vs <;> first | rfl | exact hkt | cases hkt)⟩
 cases e with
 | normal => exact fin hq
 | ret => exact fin hq
 | exit id => exact hq.elim
 | goto l => exact hq.elim
 | panic ch => exact hq.elim
 | outgrown => exact hq.elim

section
variable {P : Program} {kl : List Bool} {n : Nat} {B : Bs} {K : Env → List Ob → Prop} {E : Env} {H : List Ob} {ops : Array Oper}
theorem callC_wp {o : Oper} {c : Call} {fop : Operand} {f : FuncId} {caps args : List Va} {X : List Ob} {Post : Va → List Ob → Prop} (ids ch : List Nat) (fK : Nat → Bool) (hs : DoesC P f args X ch Post) (hf1 : ∀ j i : Nat, ids[j]? = some i → fK i = true → kpf (maskK ch 0 (kinds X)) j = true) (hf2 : ∀ o, kpf kl o = true → fK o = true) (e1 : o.op = .call c) (e3 : c.callee = .value fop) (hk : opOk true E fop ∧ allOk true E c.args.toList) (e4 : opnd E fop = .fn f caps)
  (hp : rnAs ids (opnds E c.args.toList ++ caps) = some args) (hXs : subH ids H ids = some X) (hids : idsOk H.length ids = true) {a : Act} {w : World} {Q : Exit → Act → World → Prop} {K' : Act → World → Prop} (hR : Rel (cx P kl n B) E H a w)
  (hK' : ∀ c' r X' w', Post r X' → r.ok → RelV (cx P kl n B) (pruneE fK E) (setL (pruneH fK H) ids (bkOs ids H.length X')) c' (bkV ids H.length r) a w' → K' (a.put o.dst c') w') : o.wp P a w K' Q := by
 obtain ⟨Kk, G, hX, hS, hE, hdf, hn, hkp⟩ := hR
 have hvf := opnd_ok hE rfl fop hk.1
 rw [e4] at hvf
 simp only [VR] at hvf
 obtain ⟨cs, hcs, hcv⟩ := hvf
 have hargs := opnds_ok hE rfl c.args.toList hk.2
 obtain ⟨hnd, hlt⟩ := idsOk_spec hids
 obtain ⟨hXl, hXg⟩ := subH_get hXs
 -- the ghosts that are handed over
 have hGl : ∀ i ∈ ids, i < G.length := fun i hi => by rw [hS.len]; exact hlt i hi
 obtain ⟨Gs, hGsl, hGs⟩ : ∃ Gs : List Gh, Gs.length = ids.length ∧ ∀ (j i : Nat), ids[j]? = some i → Gs[j]? = G[i]? := by
  refine ⟨ids.map fun i => G.getD i ⟨none, undef, []⟩, by simp, fun j i hj => ?_⟩
  have := hGl i (List.mem_of_getElem? hj)
  simp [hj, List.getElem?_eq_getElem this]
 have inv : ∀ {j : Nat} {g : Gh}, Gs[j]? = some g → ∃ i, ids[j]? = some i ∧ G[i]? = some g := by
  intro j g hg
  have hj := (List.getElem?_eq_some_iff.1 hg).1
  rw [hGsl] at hj
  exact ⟨ids[j], List.getElem?_eq_getElem hj, by rw [← hGs j _ (List.getElem?_eq_getElem hj)]; exact hg⟩
 have hSs : St Kk Gs X w := by
  refine ⟨by rw [hGsl, hXl], hS.kb, fun j g b hg hb => ?_, fun j j' g g' b hg hg' hb hb' => ?_, fun j g x hg hx => ?_, hS.tb⟩
  ·obtain ⟨i, _, hi⟩ := inv hg
   exact hS.gbo i g b hi hb
  ·obtain ⟨i, hij, hi⟩ := inv hg
   obtain ⟨i', hij', hi'⟩ := inv hg'
   obtain rfl := hS.ijo i i' g g' b hi hi' hb hb'
   exact (List.getElem?_inj (List.getElem?_eq_some_iff.1 hij).1 hnd).1 (hij.trans hij'.symm)
  ·obtain ⟨i, hij, hi⟩ := inv hg
   obtain ⟨x', hx', hrn⟩ := hXg j i hij
   rw [hx] at hx'; cases hx'
   have hil := hlt i (List.mem_of_getElem? hij)
   have hoi : H[i]? = some (obAt H i) ∨ obAt H i = .gone := by
    rcases Classical.em (obAt H i = .gone) with e | e
    ·exact .inr e
    ·exact .inl (obAt_some rfl e)
   rcases hoi with hoi | hoi
   ·exact rnO_ok (fun j o h => hGs j o h) hrn (hS.ob i g _ hi hoi)
   ·rw [hoi] at hrn; simp only [rnO] at hrn; cases hrn; trivial
 have hall := rnAs_ok (fun j o h => hGs j o h) hp (hargs.append hcv)
 unfold Oper.wp
 rw [enter_run e1 e3 hcs hs.1]
 simp only [Oper.upon]
 refine (hs.2 Kk Gs w _ hSs hall).mono ?_
 rintro e w' ⟨c', r, X', K1, G1, rfl, hpost, hX1, hS1, hv, hkp1⟩
 have hGl1 : ids.length ≤ G1.length := by rw [← hGsl]; exact hX1.glen
 have hXl1 : ids.length ≤ X'.length := by rw [← hS1.len]; exact hGl1
 let G2 := setL G ids G1
 -- how the ghosts lie in the new list
 have g2new : ∀ (j : Nat) (g : Gh), G1[j]? = some g → G2[bkI ids H.length j]? = some g := by
  intro j g hg
  rcases Nat.lt_or_ge j ids.length with h | h
  ·rw [bkI_lt (List.getElem?_eq_getElem h)]
   show (setL G ids G1)[_]? = _
   rw [setL_hit hnd hGl hGl1 (List.getElem?_eq_getElem h)]
   exact hg
  ·rw [bkI_ge h, ← hS.len]
   show (setL G ids G1)[_]? = _
   rw [setL_new h]
   exact hg
 have g2cases : ∀ {o : Nat} {g : Gh}, G2[o]? = some g → (∃ j : Nat, ids[j]? = some o ∧ G1[j]? = some g) ∨ (o ∉ ids ∧ o < G.length ∧ G[o]? = some g) ∨ (∃ j : Nat, ids.length ≤ j ∧ o = G.length + (j - ids.length) ∧ G1[j]? = some g) := fun h => setL_cases hnd hGl hGl1 h
 have old : ∀ {j : Nat} {g : Gh} {b : Nat}, G1[j]? = some g → own g b → (∃ (i : Nat) (g0 : Gh), i ∈ ids ∧ G[i]? = some g0 ∧ own g0 b) ∨ w.heap.size ≤ b := by
  intro j g b hg hb
  rcases hX1.gown j g b hg hb with ⟨j0, g0, h1, h2⟩ | h
  ·obtain ⟨i, hij, hi⟩ := inv h1
   exact .inl ⟨i, g0, List.mem_of_getElem? hij, hi, h2⟩
  ·exact .inr h
 have fr : ∀ b, b < w.heap.size → (∀ (o : Nat) (g : Gh), o ∈ ids → G[o]? = some g → ¬ own g b) → w'.heap[b]? = w.heap[b]? := fun b hb hn => hX1.frame b hb fun j g hg => by
  obtain ⟨i, hij, hi⟩ := inv hg
  exact hn i g (List.mem_of_getElem? hij) hi
 have hMk : Mn Kk K1 w.heap w'.heap := ⟨hX1.k, fun b hb => fr b (hS.kb b hb) fun o g _ hg e => (hS.gbo o g b hg e).2 hb⟩
 have same : ∀ {j i : Nat}, ids[j]? = some i → fK i = true → G1[j]? = G[i]? := by
  intro j i hj hkt
  have hk : kpf (maskK ch 0 (kinds X)) j = true := hf1 j i hj hkt
  have hjl := (List.getElem?_eq_some_iff.1 hj).1
  have hgs : Gs[j]? = some Gs[j] := List.getElem?_eq_getElem (by rw [hGsl]; exact hjl)
  rw [hX1.gsame j _ hk hgs, ← hGs j i hj, hgs]
 have hMg : Mg fK G G2 := by
  intro o g ho hg
  have hol := (List.getElem?_eq_some_iff.1 hg).1
  by_cases hin : o ∈ ids
  ·obtain ⟨j, hj⟩ := List.getElem?_of_mem hin
   show (setL G ids G1)[o]? = _
   rw [setL_hit hnd hGl hGl1 hj, same hj ?_]
   ·exact hg
   ·simpa [keepF, hin] using ho
  ·show (setL G ids G1)[o]? = _
   rw [setL_old hin hol]
   exact hg
 let H2 := setL (pruneH fK H) ids (bkOs ids H.length X')
 have hHl : ∀ i ∈ ids, i < (pruneH fK H).length := fun i hi => by rw [pruneH_map, List.length_map]; exact hlt i hi
 have hS2 : St K1 G2 H2 w' := by
  refine ⟨?_, hS1.kb, fun o g b hg hb => ?_, fun o o' g g' b hg hg' hb hb' => ?_, fun o g x hg hx => ?_, hS1.tb⟩
  ·show (setL G ids G1).length = (setL (pruneH fK H) ids (bkOs ids H.length X')).length
   rw [setL_length hGl1, setL_length (by rw [bkOs_length]; exact hXl1), pruneH_map, List.length_map, bkOs_length, hS.len, hS1.len]
  ·rcases g2cases hg with ⟨j, _, h⟩ | ⟨ho, hol, h⟩ | ⟨j, _, _, h⟩
   ·exact hS1.gbo j g b h hb
   ·have := hS.gbo o g b h hb
    refine ⟨Nat.lt_of_lt_of_le this.1 hX1.size, fun hk => ?_⟩
    rcases hX1.knew b hk with h' | ⟨j0, g0, h1, h2⟩ | h'
    ·exact this.2 h'
    ·obtain ⟨i, hij, hi⟩ := inv h1
     exact ho (hS.ijo o i g g0 b h hi hb h2 ▸ List.mem_of_getElem? hij)
    ·omega
   ·exact hS1.gbo j g b h hb
  ·have sep : ∀ {o : Nat} {g g' : Gh} {b j : Nat}, o ∉ ids → G[o]? = some g → own g b → G1[j]? = some g' → own g' b → False := by
    intro o g g' b j ho h hb h' hb'
    have hbs := (hS.gbo o g b h hb).1
    rcases old h' hb' with ⟨i, g0, hi, h0, hb0⟩ | h0
    ·exact ho (hS.ijo o i g g0 b h h0 hb hb0 ▸ hi)
    ·omega
   rcases g2cases hg with ⟨j, hj, h⟩ | ⟨ho, hol, h⟩ | ⟨j, hj, ho, h⟩ <;> rcases g2cases hg' with ⟨j', hj', h'⟩ | ⟨ho', hol', h'⟩ | ⟨j', hj', ho', h'⟩
   ·obtain rfl := hS1.ijo j j' g g' b h h' hb hb'
    rw [hj] at hj'; cases hj'; rfl
   ·exact (sep ho' h' hb' h hb).elim
   ·obtain rfl := hS1.ijo j j' g g' b h h' hb hb'
    have := (List.getElem?_eq_some_iff.1 hj).1
    omega
   ·exact (sep ho h hb h' hb').elim
   ·exact hS.ijo o o' g g' b h h' hb hb'
   ·exact (sep ho h hb h' hb').elim
   ·obtain rfl := hS1.ijo j j' g g' b h h' hb hb'
    have := (List.getElem?_eq_some_iff.1 hj').1
    omega
   ·exact (sep ho' h' hb' h hb).elim
   ·obtain rfl := hS1.ijo j j' g g' b h h' hb hb'
    omega
  ·have hcx := setL_cases hnd hHl (by rw [bkOs_length]; exact hXl1) hx
   have hlenE : (pruneH fK H).length = G.length := by rw [pruneH_map, List.length_map, hS.len]
   have new : ∀ {j : Nat}, G1[j]? = some g → (bkOs ids H.length X')[j]? = some x → ObR K1 w'.heap G2 g x := by
    intro j h1 h2
    rw [bkOs_get] at h2
    cases hy : X'[j]? with
    | none => rw [hy] at h2; cases h2
    | some y =>
     rw [hy] at h2
     simp at h2
     subst h2
     exact bkO_ok g2new (hS1.ob j g y h1 hy)
   rcases g2cases hg with ⟨j, hj, h⟩ | ⟨ho, hol, h⟩ | ⟨j, hj, ho, h⟩
   ·rcases hcx with ⟨j', hj', h'⟩ | ⟨ho', _, _⟩ | ⟨j', hj', ho', h'⟩
    ·have := (List.getElem?_inj (List.getElem?_eq_some_iff.1 hj).1 hnd).1 (hj.trans hj'.symm)
     subst this
     exact new h h'
    ·exact absurd (List.mem_of_getElem? hj) ho'
    ·have := hGl o (List.mem_of_getElem? hj)
     omega
   ·rcases hcx with ⟨j', hj', h'⟩ | ⟨ho', _, h'⟩ | ⟨j', hj', ho', h'⟩
    ·exact absurd (List.mem_of_getElem? hj') ho
    ·rw [pruneH_map, List.getElem?_map] at h'
     cases hy : H[o]? with
     | none => rw [hy] at h'; cases h'
     | some y =>
      rw [hy] at h'
      simp at h'
      subst h'
      refine ObR.prune hMk hMg (fun b hb => fr b (hS.gbo o g b h hb).1 fun i g' hi hg' e => ?_) (hS.ob o g y h hy)
      have := hS.ijo o i g g' b h hg' hb e
      subst this
      exact ho hi
    ·omega
   ·rcases hcx with ⟨j', hj', h'⟩ | ⟨ho', hol', _⟩ | ⟨j', hj', ho', h'⟩
    ·have := hlt o (List.mem_of_getElem? hj')
     rw [← hS.len] at this
     omega
    ·omega
    ·have : j = j' := by omega
     subst this
     exact new h h'
 have hX2 : Ext (kpf kl) B.K0 B.G0 B.w0 K1 G2 w' := by
  refine hX.trans ⟨hX1.os, hX1.tape, hX1.output, hX1.size, hX1.k, fun b hb => ?_, ?_, fun o g b hg hb => ?_, fun o g0 ho h0 => ?_, fun b hb hn => fr b hb fun o g _ hg => hn o g hg⟩
  ·rcases hX1.knew b hb with h' | ⟨j0, g0, h1, h2⟩ | h'
   ·exact .inl h'
   ·obtain ⟨i, _, hi⟩ := inv h1
    exact .inr (.inl ⟨i, g0, hi, h2⟩)
   ·exact .inr (.inr h')
  ·show G.length ≤ (setL G ids G1).length
   rw [setL_length hGl1]; omega
  ·have up : ∀ {j : Nat}, G1[j]? = some g → (∃ (o0 : Nat) (g0 : Gh), G[o0]? = some g0 ∧ own g0 b) ∨ w.heap.size ≤ b := fun h => (old h hb).imp (fun ⟨i, g0, _, h1, h2⟩ => ⟨i, g0, h1, h2⟩) id
   rcases g2cases hg with ⟨j, _, h⟩ | ⟨_, _, h⟩ | ⟨j, _, _, h⟩
   ·exact up h
   ·exact .inl ⟨o, g, h, hb⟩
   ·exact up h
  ·exact hMg o g0 (hf2 o ho) h0
 have hRV : RelV (cx P kl n B) (pruneE fK E) H2 c' (bkV ids H.length r) a w' := by
  refine ⟨K1, G2, hX2, hS2, fun m => by rw [get_pruneE]; exact VR.prune hMk hMg _ _ (hE m), hdf, hn, fun o ho => ?_, bkV_ok g2new hv⟩
  obtain ⟨x, hx, hkt⟩ := hkp o ho
  have hol := (List.getElem?_eq_some_iff.1 hx).1
  by_cases hin : o ∈ ids
  ·obtain ⟨j, hj⟩ := List.getElem?_of_mem hin
   have hk : kpf (maskK ch 0 (kinds X)) j = true := hf1 j o hj (hf2 o ho)
   obtain ⟨y', hy', hkt'⟩ := hkp1 j hk
   refine ⟨bkO ids H.length y', ?_, by rw [bkO_kept]; exact hkt'⟩
   show (setL _ ids _)[o]? = _
   rw [setL_hit hnd hHl (by rw [bkOs_length]; exact hXl1) hj, bkOs_get, hy']
   rfl
  ·refine ⟨x.prune fK, ?_, Ob.prune_kept hkt⟩
   show (setL _ ids _)[o]? = _
   rw [setL_old hin (by rw [pruneH_map, List.length_map]; exact hol), pruneH_map, List.getElem?_map, hx]
   rfl
 exact hK' c' r X' w' hpost hv.ok hRV

def keepC (ids cho : List Nat) (H : List Ob) (o : Nat) : Bool := keepF ids H o && !hasN cho o
def chOk (ch cho : List Nat) : Nat → List Nat → Bool
 | _, [] => true
 | j, i :: ids => (bif hasN ch j then hasN cho i else true) && chOk ch cho (j + 1) ids
def freeK (kl : List Bool) : List Nat → Bool
 | [] => true
 | i :: l => !kpf kl i && freeK kl l
theorem chOk_get {ch cho : List Nat} : ∀ {ids : List Nat} {k j i : Nat}, chOk ch cho k ids = true → ids[j]? = some i → hasN cho i = false → hasN ch (k + j) = false
 | [], _, _, _, _, h, _ => by simp at h
 | x :: ids, k, 0, i, h, hj, hi => by
  simp only [chOk, Bool.and_eq_true] at h
  simp at hj
  subst hj
  have := h.1
  cases hc : hasN ch k with
  | false => simp
  | true => rw [hc, cond_true, hi] at this; cases this
 | x :: ids, k, j + 1, i, h, hj, hi => by
  simp only [chOk, Bool.and_eq_true] at h
  rw [show k + (j + 1) = k + 1 + j by omega]
  exact chOk_get h.2 (by simpa using hj) hi
theorem freeK_get {kl : List Bool} {o : Nat} : ∀ {l : List Nat}, freeK kl l = true → kpf kl o = true → hasN l o = false
 | [], _, _ => rfl
 | x :: l, h, ho => by
  simp only [freeK, Bool.and_eq_true] at h
  simp only [hasN]
  by_cases e : o = x
  ·subst e; simp [ho] at h
  ·rw [beq_false_of_ne e, cond_false]
   exact freeK_get h.2 ho
theorem keepC_1 {ids ch cho : List Nat} {H X : List Ob} (hX : subH ids H ids = some X) (hc : chOk ch cho 0 ids = true) : ∀ j i : Nat, ids[j]? = some i → keepC ids cho H i = true → kpf (maskK ch 0 (kinds X)) j = true := by
 intro j i hj h
 simp only [keepC, Bool.and_eq_true, Bool.not_eq_true'] at h
 obtain ⟨hl, hg⟩ := subH_get hX
 obtain ⟨x, hx, hr⟩ := hg j i hj
 have hk : (obAt H i).kept = true := by
  have h1 := h.1
  have hm : i ∈ ids := List.mem_of_getElem? hj
  simpa [keepF, hm] using h1
 rw [maskK_get, kinds_at hx (by rw [rnO_kept hr]; exact hk), chOk_get hc hj h.2]
 rfl
theorem keepC_2 {ids cho : List Nat} {H : List Ob} {kl : List Bool} (hk : kpOk (kpf kl) H) (hf : freeK kl cho = true) : ∀ o, kpf kl o = true → keepC ids cho H o = true := by
 intro o ho
 obtain ⟨x, hx, hkx⟩ := hk o ho
 have : (obAt H o).kept = true := by rw [obAt_eq hx]; exact hkx
 simp [keepC, keepF, this, freeK_get hf ho]
theorem Rg.callC {o : Oper} {l : List Oper} {f : FuncId} {av args : List Va} {X : List Ob} {ch : List Nat} {Post : Va → List Ob → Prop} (ids cho : List Nat) (hs : DoesC P f args X ch Post) (ha : Is (callArgs E o) (some (f, av))) (hp : Is (rnAs ids av) (some args)) (hXs : Is (subH ids H ids) (some X)) (hids : idsOk H.length ids = true) (hch : chOk ch cho 0 ids = true) (hfr : freeK kl cho = true) (hok : callOk n true E o)
  (cont : ∀ r X', Post r X' → r.ok → RgEnd P kl n B ops K (run1 P kl n ops.toList l ⟨eput (pruneE (keepC ids cho H) E) o.dst (bkV ids H.length r), setL (pruneH (keepC ids cho H) H) ids (bkOs ids H.length X'), True⟩)) : Rg P kl n B ops (o :: l) E H K := by
 obtain ⟨c, fop, caps, e1, e2, e3, e4, rfl⟩ := callArgs_spec ha
 obtain ⟨hd, hk⟩ := callOk_spec hok e1 e3
 intro hB a w Q hR hKK
 refine wpList_plain e2 fun K' hK' => ?_
 have hkp : kpOk (kpf kl) H := by obtain ⟨_, _, _, _, _, _, _, h⟩ := hR; exact h
 exact callC_wp ids ch (keepC ids cho H) hs (keepC_1 hXs hch) (keepC_2 hkp hfr) e1 e3 hk e4 hp hXs hids hR fun c' r X' w' h1 h2 h3 => hK' _ _ (Rg.run (cont r X' h1 h2) hB _ _ _ (h3.put o.dst (dstOk_lt hd)) hKK)
end

theorem Rel.forgetC {C : Cx} {E : Env} {H : List Ob} {a : Act} {w : World} {ids : List Nat} {X : List Ob} (fK : Nat → Bool) (hX : subH ids H ids = some X) (hids : idsOk H.length ids = true) (hR : Rel C E H a w) :
  Rel C (pruneE fK E) (setL (pruneH fK H) ids (bkOs ids H.length X)) a w := by
 obtain ⟨Kk, G, h1, h2, h3, h4, h5, h6⟩ := hR
 obtain ⟨hnd, hlt⟩ := idsOk_spec hids
 obtain ⟨hl, hg⟩ := subH_get hX
 have hpl : (pruneH fK H).length = H.length := by rw [pruneH_map, List.length_map]
 have hM : Mn Kk Kk w.heap w.heap := ⟨fun _ h => h, fun _ _ => rfl⟩
 have hMg : Mg fK G G := fun _ _ _ h => h
 have hxl : ids.length ≤ (bkOs ids H.length X).length := by rw [bkOs_length]; omega
 have hlen : (setL (pruneH fK H) ids (bkOs ids H.length X)).length = H.length := by rw [setL_length hxl, bkOs_length, hpl]; omega
 have key : ∀ (o : Nat) (y : Ob), (setL (pruneH fK H) ids (bkOs ids H.length X))[o]? = some y → ∃ x, H[o]? = some x ∧ (y = x ∨ y = x.prune fK) := by
  intro o y hy
  rcases setL_cases hnd (fun i hi => by rw [hpl]; exact hlt i hi) hxl hy with ⟨j, hj, h⟩ | ⟨_, _, h⟩ | ⟨j, hj, _, h⟩
  ·rw [bkOs_get] at h
   obtain ⟨x, hx, hr⟩ := hg j o hj
   rw [hx] at h
   simp only [Option.map_some, bk_rnO hr, Option.some.injEq] at h
   have hol := hlt o (List.mem_of_getElem? hj)
   rw [obAt_eq (List.getElem?_eq_getElem hol)] at h
   exact ⟨_, List.getElem?_eq_getElem hol, .inl h.symm⟩
  ·rw [pruneH_map, List.getElem?_map] at h
   cases hx : H[o]? with
   | none => rw [hx] at h; cases h
   | some x => rw [hx] at h; exact ⟨x, rfl, .inr (Option.some.inj h).symm⟩
  ·have := (List.getElem?_eq_some_iff.1 h).1
   rw [bkOs_length] at this
   omega
 refine ⟨Kk, G, h1, ⟨by rw [hlen]; exact h2.len, h2.kb, h2.gbo, h2.ijo, fun o g y hgo hy => ?_, h2.tb⟩, fun m => by rw [get_pruneE]; exact VR.prune hM hMg _ _ (h3 m), h4, h5, fun o ho => ?_⟩
 ·obtain ⟨x, hx, rfl | rfl⟩ := key o y hy
  ·exact h2.ob o g _ hgo hx
  ·exact ObR.prune hM hMg (fun _ _ => rfl) (h2.ob o g _ hgo hx)
 ·obtain ⟨x, hx, hk⟩ := h6 o ho
  have hol := (List.getElem?_eq_some_iff.1 hx).1
  obtain ⟨x', hx', h⟩ := key o _ (List.getElem?_eq_getElem (by rw [hlen]; exact hol))
  rw [hx] at hx'; cases hx'
  refine ⟨_, List.getElem?_eq_getElem (by rw [hlen]; exact hol), ?_⟩
  rcases h with h | h
  ·rw [h]; exact hk
  ·rw [h]; exact Ob.prune_kept hk
section
variable {P : Program} {kl : List Bool} {n : Nat} {B : Bs} {K : Env → List Ob → Prop} {E : Env} {H : List Ob} {ops : Array Oper}
theorem Rg.callGC {o : Oper} {l : List Oper} {f : FuncId} {av args : List Va} {X Y : List Ob} {g : Bool} {v : Va} {ch : List Nat} (ids cho : List Nat) (hs : g = true → DoesC P f args X ch fun r X' => r = v ∧ X' = Y) (hY : g = false → Y = X) (ha : Is (callArgsX E o) (some (f, av))) (hb : Is (guardX ops.toList E o) (some g)) (hp : Is (rnAs ids av) (some args)) (hXs : Is (subH ids H ids) (some X)) (hids : idsOk H.length ids = true) (hch : chOk ch cho 0 ids = true) (hfr : freeK kl cho = true) (hok : callOk n g E o)
  (cont : RgEnd P kl n B ops K (run1 P kl n ops.toList l ⟨eput (pruneE (keepC ids cho H) E) o.dst (wrapG o.guard g (bkV ids H.length v)), setL (pruneH (keepC ids cho H) H) ids (bkOs ids H.length Y), True⟩)) : Rg P kl n B ops (o :: l) E H K := by
 unfold Is callArgsX at ha
 unfold Is guardX at hb
 split at ha
 rotate_left
 ·cases ha
 rename_i c h1
 split at ha
 rotate_left
 ·cases ha
 rename_i fop h3
 split at ha
 rotate_left
 ·cases ha
 rename_i f' caps h4
 cases ha
 obtain ⟨hd, hk⟩ := callOk_spec hok h1 h3
 have hrun := Rg.run cont
 intro hB a w Q hR hKK
 have hkp : kpOk (kpf kl) H := by obtain ⟨_, _, _, _, _, _, _, h⟩ := hR; exact h
 cases hg : o.guard with
 | none =>
  rw [hg] at hb
  obtain rfl : true = g := Option.some.inj hb
  refine wpList_plain hg fun K' hK' => ?_
  rw [wrapG_none hg] at hrun
  refine callC_wp ids ch (keepC ids cho H) (hs rfl) (keepC_1 hXs hch) (keepC_2 hkp hfr) h1 h3 hk h4 hp hXs hids hR fun c' r X' w' ⟨h5, h6⟩ _ hRV => ?_
  subst h5; subst h6
  exact hK' _ _ (hrun hB _ _ _ (hRV.put o.dst (dstOk_lt hd)) hKK)
 | some gw =>
  obtain ⟨j, want⟩ := gw
  rw [hg] at hb
  have hw := guardB_ok hR hg hb
  rw [wrapG_some hg] at hrun
  refine wpList_step fun K' hK' => ?_
  cases g with
  | true =>
   rw [if_pos hw]
   refine callC_wp ids ch (keepC ids cho H) (hs rfl) (keepC_1 hXs hch) (keepC_2 hkp hfr) h1 h3 hk h4 hp hXs hids hR fun c' r X' w' ⟨h5, h6⟩ _ hRV => ?_
   subst h5; subst h6
   exact hK' _ _ (hrun hB _ _ _ (RelV.put (v := .cnd true _) (by
    obtain ⟨Kk, G, q1, q2, q3, q4, q5, q6, q7⟩ := hRV
    exact ⟨Kk, G, q1, q2, q3, q4, q5, q6, by simp only [VR]; exact ⟨fun _ => q7, fun e => Bool.noConfusion e⟩⟩) o.dst (dstOk_lt hd)) hKK)
  | false =>
   rw [if_neg (by rw [hw]; simp)]
   rw [hY rfl] at hrun
   obtain ⟨Kk, G, hX, hS, hE, hdf, hn, hkp'⟩ := hR.forgetC (keepC ids cho H) hXs hids
   exact hK' _ _ (hrun hB _ _ _ (RelV.put (C := cx P kl n B) (v := .cnd false _) ⟨Kk, G, hX, hS, hE, hdf, hn, hkp', by simp [VR]⟩ o.dst (dstOk_lt hd)) hKK)
end
section
variable {P : Program} {kl : List Bool} {n : Nat} {B : Bs} {K : Env → List Ob → Prop} {E : Env} {H : List Ob} {ops : List Oper} {obs : List En} {l : Plan}
theorem Br.callCG {k : Nat} {L : List Nat} {f : FuncId} {av args : List Va} {X Y : List Ob} {o : Oper} {v : Va} {ch : List Nat} (ids cho : List Nat) (hs : DoesC P f args X ch fun r X' => r = v ∧ X' = Y) (hk : Is ops[k]? (some o)) (ha : Is (callArgsX E o) (some (f, av))) (hb : Is (guardX ops E o) (some true)) (hp : Is (rnAs ids av) (some args)) (hXs : Is (subH ids H ids) (some X)) (hids : idsOk H.length ids = true) (hch : chOk ch cho 0 ids = true) (hfr : freeK kl cho = true) (hok : callOk n true E o)
  (hag : againAll L (some (keepC ids cho H)) (setL (pruneH (keepC ids cho H) H) ids (bkOs ids H.length Y)) obs)
  (cont : RdEnd P kl n B ops.toArray K (runD P kl n ops l ⟨obs, eput (pruneE (keepC ids cho H) E) o.dst (wrapG o.guard true (bkV ids H.length v)), setL (pruneH (keepC ids cho H) H) ids (bkOs ids H.length Y), True⟩)) : Br P kl n B ops.toArray k L l obs E H K := by
 unfold Is at *
 unfold callArgsX at ha
 split at ha
 rotate_left
 ·cases ha
 rename_i c h1
 split at ha
 rotate_left
 ·cases ha
 rename_i fop h3
 split at ha
 rotate_left
 ·cases ha
 rename_i f' caps h4
 cases ha
 obtain ⟨hd, hk1, hk2⟩ := callOk_spec hok h1 h3
 have h' := Dr.run cont
 simp only at h'
 rw [← dst_eq hk] at h'
 refine Br.eff (po := some (keepC ids cho H)) (fun _ => ?_) hag h'
 intro E' hE' a w Q K' hR hK
 have hop := looks_op (getA hk) hE'
 rw [h1] at hop
 have hfo : rnd E fop = rnd E' fop := hop fop (by simp [Op.operands, Call.operands, h3])
 have hag' : Agree c.args.toList E E' := fun x hx => hop x (by simp only [Op.operands, Call.operands, Array.toList_append, List.mem_append]; exact .inr hx)
 rw [Agree.opOk hfo] at hk1
 rw [Agree.allOk hag'] at hk2
 rw [Agree.opnd hfo] at h4
 rw [Agree.opnds hag'] at hp
 rw [dst_eq hk] at hK
 unfold wpOp
 simp only [getA hk]
 unfold guardX at hb
 cases hgd : o.guard with
 | none =>
  rw [hgd] at hb hK
  rw [if_pos (by simp [Region.wanted, hgd])]
  have hkp : kpOk (kpf kl) H := by obtain ⟨_, _, _, _, _, _, _, h⟩ := hR; exact h
  refine .inl (callC_wp ids ch (keepC ids cho H) hs (keepC_1 hXs hch) (keepC_2 hkp hfr) h1 h3 ⟨hk1, hk2⟩ h4 hp hXs hids hR fun c' r X' w' ⟨hr, hX⟩ _ hRV => ?_)
  subst hr; subst hX
  exact hK _ _ (hRV.put o.dst (dstOk_lt hd))
 | some gw =>
  obtain ⟨j, want⟩ := gw
  rw [hgd] at hb hK
  have hb' : guardB ops.toArray.toList E j want = some true := by simpa using hb
  rw [← guardB_congr (getA hk) hgd hE'] at hb'
  have hw := guardB_ok hR hgd hb'
  rw [if_pos hw]
  have hkp : kpOk (kpf kl) H := by obtain ⟨_, _, _, _, _, _, _, h⟩ := hR; exact h
  refine .inl (callC_wp ids ch (keepC ids cho H) hs (keepC_1 hXs hch) (keepC_2 hkp hfr) h1 h3 ⟨hk1, hk2⟩ h4 hp hXs hids hR fun c' r X' w' ⟨hr, hX⟩ _ hRV => ?_)
  subst hr; subst hX
  exact hK _ _ (RelV.put (v := .cnd true _) (by
   obtain ⟨Kk, G, q1, q2, q3, q4, q5, q6, q7⟩ := hRV
   exact ⟨Kk, G, q1, q2, q3, q4, q5, q6, by simp only [VR]; exact ⟨fun _ => q7, fun e => Bool.noConfusion e⟩⟩) o.dst (dstOk_lt hd))
end
section
variable {P : Program} {kl : List Bool} {n : Nat} {B : Bs} {Q : Qt} {E : Env} {H : List Ob} {a : Act} {w : World}
theorem Rel.repl {i j : Nat} (hB : B.G0.length = kl.length) (hi : kpf kl i = false) (hj : kl.length ≤ j) (hne : i ≠ j) (hil : i < H.length) (hjl : j < H.length) (h : Rel (cx P kl n B) E H a w) :
  Rel (cx P kl n B) (pruneE (fun o => !(o == j)) (swE i j E)) ((pruneH (fun o => !(o == j)) (swH i j H)).set j .gone) a w := by
 obtain ⟨K, G, hX, hS, hE, hd, hn, hk⟩ := h
 have hiG : i < G.length := by rw [hS.len]; exact hil
 have hjG : j < G.length := by rw [hS.len]; exact hjl
 have hjG0 : B.G0.length ≤ j := by rw [hB]; exact hj
 have hg := fun o => swL_get hiG hjG o
 have hG : ∀ (o : Nat) (g : Gh), G[o]? = some g → (swL i j G)[swN i j o]? = some g := fun o g ho => by rw [hg, swN_swN]; exact ho
 have hH : ∀ o, (swH i j H)[o]? = (H[swN i j o]?).map (swO i j) := fun o => by rw [swH_eq hil hjl, swL_get (by simpa using hil) (by simpa using hjl), List.getElem?_map]
 have hsn : ∀ o, o ≠ j → swN i j o = if o = i then j else o := fun o ho => by rw [swN_eq]; split <;> simp_all
 have hMg : Mg (fun o => !(o == j)) (swL i j G) ((swL i j G).set j ⟨none, undef, []⟩) := fun o g ho h => by
  have : o ≠ j := by simpa using ho
  rw [List.getElem?_set_ne (Ne.symm this)]; exact h
 have hM : Mn K K w.heap w.heap := ⟨fun _ h => h, fun _ _ => rfl⟩
 have g2 : ∀ {o : Nat} {g : Gh} {b : Nat}, ((swL i j G).set j ⟨none, undef, []⟩)[o]? = some g → own g b → o ≠ j ∧ G[swN i j o]? = some g := by
  intro o g b h hb
  by_cases e : o = j
  ·subst e
   rw [List.getElem?_set_self (by rw [swL_length]; exact hjG)] at h
   cases h; exact (own_none hb).elim
  ·rw [List.getElem?_set_ne (Ne.symm e), hg] at h
   exact ⟨e, h⟩
 refine ⟨K, (swL i j G).set j ⟨none, undef, []⟩, ?_, ?_, fun m => ?_, hd, hn, fun o ho => ?_⟩
 ·exact { hX with
   glen := by rw [List.length_set, swL_length]; exact hX.glen
   gown := fun o g b h1 hb => hX.gown _ g b (g2 h1 hb).2 hb
   gsame := fun o g0 ho h0 => by
    have hol := (List.getElem?_eq_some_iff.1 h0).1
    have h1 : o ≠ j := Nat.ne_of_lt (Nat.lt_of_lt_of_le hol hjG0)
    have h2 : o ≠ i := fun e => by subst e; exact absurd (hi.symm.trans ho) (by simp)
    rw [List.getElem?_set_ne (Ne.symm h1), hg, hsn o h1, if_neg h2]
    exact hX.gsame o g0 ho h0 }
 ·refine ⟨by rw [List.length_set, List.length_set, swL_length, pruneH_map, List.length_map, swH_eq hil hjl, swL_length, List.length_map]; exact hS.len, hS.kb, fun o g b h1 h2 => hS.gbo _ g b (g2 h1 h2).2 h2, fun o o' g g' b h1 h2 h3 h4 => ?_, fun o g x h1 h2 => ?_, hS.tb⟩
  ·have := hS.ijo _ _ g g' b (g2 h1 h3).2 (g2 h2 h4).2 h3 h4
   rw [← swN_swN i j o, this, swN_swN]
  ·by_cases e : o = j
   ·subst e
    rw [List.getElem?_set_self (by rw [pruneH_map, List.length_map, swH_eq hil hjl, swL_length, List.length_map]; exact hjl)] at h2
    cases h2; trivial
   ·rw [List.getElem?_set_ne (Ne.symm e), hg] at h1
    rw [List.getElem?_set_ne (Ne.symm e), pruneH_map, List.getElem?_map, hH] at h2
    cases hy : H[swN i j o]? with
    | none => rw [hy] at h2; cases h2
    | some y =>
     rw [hy] at h2
     simp only [Option.map_some, Option.some.injEq] at h2
     subst h2
     exact ObR.prune hM hMg (fun _ _ => rfl) (swO_ok hG (hS.ob _ g y h1 hy))
 ·rw [get_pruneE, swE_get]
  exact VR.prune hM hMg _ _ (swV_ok hG _ _ (hE m))
 ·obtain ⟨x, hx, hkx⟩ := hk o ho
  have hol := kpf_lt ho
  have h1 : o ≠ j := by omega
  have h2 : o ≠ i := fun e => by subst e; exact absurd (hi.symm.trans ho) (by simp)
  refine ⟨(swO i j x).prune (fun o => !(o == j)), by rw [List.getElem?_set_ne (Ne.symm h1), pruneH_map, List.getElem?_map, hH, hsn o h1, if_neg h2, hx]; rfl, Ob.prune_kept ?_⟩
  cases x <;> first | exact hkx | cases hkx
theorem Wp.repl (i j : Nat) {c : Code} (hi : kpf kl i = false) (hj : Nat.ble kl.length j = true) (hne : i ≠ j) (hil : i < H.length) (hjl : j < H.length)
  (h : Wp P kl n B c Q (pruneE (fun o => !(o == j)) (swE i j E)) ((pruneH (fun o => !(o == j)) (swH i j H)).set j .gone)) : Wp P kl n B c Q E H := fun hB a w hR => h hB a w (Rel.repl hB hi (Nat.le_of_ble_eq_true hj) hne hil hjl hR)
theorem Wp.regRW {id : Nat} {l : List Oper} (h : ∀ K : Env → List Ob → Prop, (∀ E H, Q .normal E H → K E H) → (∀ E H E' H', Weak kl E H E' H' → K E' H' → K E H) → RgEnd P kl n B l.toArray K (run1 P kl n l l ⟨E, H, True⟩)) : Wp P kl n B (.region id l.toArray false) Q E H := by
 let K : Env → List Ob → Prop := fun E H => B.G0.length = kl.length → ∀ a w, Rel (cx P kl n B) E H a w → ∃ E' H', Q .normal E' H' ∧ Rel (cx P kl n B) E' H' a w
 have h1 := Wp.regionQ (id := id) (Q := thenQ K Q) (h K (fun E H hq _ a w hR => ⟨E, H, hq, hR⟩) (fun E H E' H' hw hk hB a w hR => hk hB a w (Rel.cut hB hR hw)))
 intro hB a w hR
 refine wp_mono (h1 hB a w hR) ?_
 intro e a' w' ⟨E', H', hq, hR'⟩
 cases e <;> first | exact hq hB a' w' hR' | exact ⟨E', H', hq, hR'⟩
attribute [go_sem] maskK hasN keepC chOk freeK
end
end Go.Vc
/- strings.Builder's Grow: no byte of the builder changes (its inner grow). -/
set_option linter.unusedVariables false
set_option linter.unusedSectionVars false
namespace Go.Proofs
open Go.Shelf Go.RowKit
variable {P : Program} {ρ : Ren}
set_option maxHeartbeats 2000000 in
set_option maxRecDepth 1000000 in
theorem Any.grow_row (L : Lays.n241 P ρ) (X : Builder.Extra P ρ) (b n l c : Nat) (a : Option Addr) (cs : List Value) (w : World)
  (hbk : w.heap[b]? = some (.cells #[.pointer (some ⟨b, 0, none⟩), .slice a l c] (ρ.t 72) (0, 0)))
  (hl : cs.length = l) (h1 : ∀ v ∈ cs, v.oneCell' = true)
  (hsrc : l = 0 ∨ ∃ g cur T fr, a = some ⟨g, 0, none⟩ ∧ w.heap[g]? = some (.cells cur T fr) ∧ cur.toList.take l = cs)
  (hcap : 2 * c + n ≤ 281474976710656) (hlc : l ≤ c) :
  Calls P (ρ.f 241) #[.pointer (some ⟨b, 0, none⟩), .int .i64 n] w fun e w' => e = .returned (.tuple #[]) ∧ ∃ xs : Array Value, w'.os = w.os ∧ w'.tape = w.tape ∧ w'.output = w.output ∧
   2 * c + n ≤ xs.size ∧ xs.size ≤ maxLen ∧ xs.toList.take l = cs ∧ w'.heap.size = w.heap.size + 1 ∧ (∀ i, i < w.heap.size → i ≠ b → w'.heap[i]? = w.heap[i]?) ∧
   w'.heap[w.heap.size]? = some (.cells xs (ρ.t 5) (0, 0)) ∧ w'.heap[b]? = some (.cells #[.pointer (some ⟨b, 0, none⟩), .slice (some ⟨w.heap.size, 0, none⟩) l xs.size] (ρ.t 72) (0, 0)) := by
 obtain ⟨ys, hrun, hle, hmax⟩ := Lib.run_makeNoZero (P := P) w.drew #[(ρ.t 3)] (ρ.t 37) (ρ.t 5) L.t37 (2 * c + n) hcap
 have hw : IntKind.i64.wrap (IntKind.i64.wrap (2 * (c : Int)) + (n : Int)) = ((2 * c + n : Nat) : Int) := by
  rw [IntKind.wrap_i64, IntKind.wrap_i64]
  omega
 have hcall : (callFunc (ρ.f 277) #[.int .i64 (IntKind.i64.wrap (IntKind.i64.wrap (2 * (c : Int)) + (n : Int)))]).run P w.drew = .ok (.value (.slice (some ⟨w.drew.heap.size, 0, none⟩) (2 * c + n) ys.size)) (w.drew.drew.drew.alloc (.cells ys (ρ.t 5))) := by
  rw [hw, run_callFunc_extern L.f277 (by kernel_rfl) (by kernel_rfl) (by kernel_rfl) (e := Extern.BytealgMakeNoZero.makeNoZero #[(ρ.t 3)] #[(ρ.t 37)]) (by kernel_rfl), hrun]
  rfl
 have c1 : w.drew.cell? ⟨b, 1, none⟩ = some (.slice a l c) := by
  have : w.drew.heap[b]? = _ := hbk
  rw [Lib.cell_of_heap this]; rfl
 have hlt : b < w.heap.size := by
  rcases Nat.lt_or_ge b w.heap.size with h' | h'
  ·exact h'
  ·simp [Array.getElem?_eq_none h'] at hbk
 have c2 : (w.alloc (.cells ys (ρ.t 5))).cell? ⟨b, 1, none⟩ = some (.slice a l c) := by
  have : (w.alloc (.cells ys (ρ.t 5))).heap[b]? = _ := (Lib.alloc_old w _ b hlt).trans hbk
  rw [Lib.cell_of_heap this]; rfl
 have f2 : (w.alloc (.cells ys (ρ.t 5))).frozen? ⟨b, 1, none⟩ = false :=
  Lib.frozen_of_heap ((Lib.alloc_old w _ b hlt).trans hbk) 1
 have c3 : (((w.alloc (.cells ys (ρ.t 5))).drew.drew.drew).setRow w.heap.size (cs ++ ys.toList.drop l).toArray).heap[b]? = some (.cells #[.pointer (some ⟨b, 0, none⟩), .slice a l c] (ρ.t 72) (0, 0)) :=
  (setRow_other _ _ _ _ (by omega)).trans ((Lib.alloc_old w _ b hlt).trans hbk)
 have c3' : (((w.alloc (.cells ys (ρ.t 5))).drew.drew.drew).setRow w.heap.size (cs ++ ys.toList.drop l).toArray).cell? ⟨b, 1, none⟩ = some (.slice a l c) := by rw [Lib.cell_of_heap c3]; rfl
 have f3 : (((w.alloc (.cells ys (ρ.t 5))).drew.drew.drew).setRow w.heap.size (cs ++ ys.toList.drop l).toArray).frozen? ⟨b, 1, none⟩ = false := Lib.frozen_of_heap c3 1
 clear hw
 have hly : l ≤ ys.size := by omega
 have hmy : ys.size ≤ maxLen := hmax (by unfold maxLen; omega)
 have hcopy : ∀ W : World, W.heap = (w.alloc (.cells ys (ρ.t 5))).heap → (Builtin.copy_ #[(ρ.t 37), (ρ.t 37)] (ρ.t 3) #[.slice (some ⟨w.heap.size, 0, none⟩) l ys.size, .slice a l c]).run P W = .ok (goInt l) (W.setRow w.heap.size (cs ++ ys.toList.drop l).toArray) := by
  intro W hW
  have hg : W.heap[w.heap.size]? = some (.cells ys (ρ.t 5) (0, 0)) := by rw [hW]; exact heap_alloc_new w _
  rcases hsrc with h0 | ⟨g, cur, T, fr, rfl, hgc, htk⟩
  ·have hcs : cs = [] := List.length_eq_zero_iff.1 (by omega)
   subst h0
   subst hcs
   rw [run_copy_none W (ρ.t 37) (ρ.t 37) (ρ.t 3) (ρ.t 5) _ _ 0 ys.size 0 c L.t37 X.sizeByte rfl]
   simp only [List.nil_append, List.drop_zero, Array.toArray_toList]
   rw [setRow_self W w.heap.size ys (ρ.t 5) (0, 0) hg]
   rfl
  ·have hgl : g < w.heap.size := by
    rcases Nat.lt_or_ge g w.heap.size with h' | h'
    ·exact h'
    ·simp [Array.getElem?_eq_none h'] at hgc
   have hgW : W.heap[g]? = some (.cells cur T fr) := by rw [hW]; exact (Lib.alloc_old w _ g hgl).trans hgc
   have := run_copy_row (P := P) W (ρ.t 37) (ρ.t 37) (ρ.t 3) (ρ.t 5) w.heap.size 0 l ys.size ⟨g, 0, none⟩ l c ys (ρ.t 5) cs L.t37 X.sizeByte hg (by rw [hl]; exact (Nat.min_self l).symm) (fun j v hj => ?_) (by omega) h1
   ·rw [this, hl]
    simp
   ·rw [show (⟨g, 0, none⟩ : Addr).add j = ⟨g, 0 + j, none⟩ from by cases j <;> simp [Addr.add], cell_of_row W g (0 + j) cur T fr hgW, Nat.zero_add]
    rw [← htk, List.getElem?_take] at hj
    split at hj
    ·rw [← Array.getElem?_toList]; exact hj
    ·cases hj
 have mixed := L.mixed
 have t72 := L.t72; have a72 := L.a72; have z72 := L.z72; have v72 := L.v72; have u72 := run_underlying L.t72
 have t70 := L.t70; have a70 := L.a70; have z70 := L.z70; have v70 := L.v70; have u70 := run_underlying L.t70
 have t37 := L.t37; have a37 := L.a37; have z37 := L.z37; have v37 := L.v37; have u37 := run_underlying L.t37
 have t3 := L.t3; have a3 := L.a3; have z3 := L.z3; have v3 := L.v3; have u3 := run_underlying L.t3
 have t5 := X.t5; have a5 := X.a5; have z5 := X.z5; have v5 := X.v5; have u5 := run_underlying X.t5
 go_enter L.f241, Body.n241_ntmps ρ
 go_wp2
 go_region_o
 all_goals go_wp2
 all_goals rw [hcopy ((w.alloc (.cells ys (ρ.t 5))).drew.drew.drew) rfl]
 all_goals simp only [Result.andThen]
 all_goals rw [Oper.upon_value]
 all_goals go_wp2
 all_goals go_end0
 all_goals
  have hxl : (cs ++ ys.toList.drop l).toArray.size = ys.size := by simp; omega
  have hsz : w.heap.size < (w.alloc (.cells ys (ρ.t 5))).heap.size := by rw [World.size_alloc]; omega
  rw [setCell_eq_setRow _ b 1 _ _ _ _ c3]
  refine ⟨rfl, (cs ++ ys.toList.drop l).toArray, rfl, rfl, rfl, by omega, by omega, by simp [← hl], ?_, fun i hi hib => ?_, ?_, ?_⟩
  ·simp
  ·rw [setRow_other _ _ _ _ hib, setRow_other _ _ _ _ (by omega)]
   exact heap_alloc_old w _ hi
  ·rw [setRow_other _ _ _ _ (by omega)]
   exact setRow_heap _ _ ys _ _ _ (heap_alloc_new w _)
  ·rw [setRow_heap _ _ _ _ _ _ c3, hxl]
   rfl

end Go.Proofs
/- strings.Builder's Grow: no byte of the builder changes (the whole, and as a call of the walks). -/
set_option linter.unusedVariables false
set_option linter.unusedSectionVars false
namespace Go.Proofs
open Go.Shelf Go.RowKit
variable {P : Program} {ρ : Ren}

set_option maxHeartbeats 2000000 in
set_option maxRecDepth 1000000 in
theorem Any.Grow_used (L : Lays.n165 P ρ) (X : Builder.Extra P ρ) (b n l c : Nat) (a : Option Addr) (cs : List Value) (w0 w : World)
  (h0 : ∀ W : World, (W = w0 ∨ W = w0.drew) → Calls P (ρ.f 240) #[.pointer (some ⟨b, 0, none⟩)] W fun e w' => e = .returned (.tuple #[]) ∧ w'.heap = w.heap ∧ w'.os = w.os ∧ w'.tape = w.tape ∧ w'.output = w.output)
  (hbk : w.heap[b]? = some (.cells #[.pointer (some ⟨b, 0, none⟩), .slice a l c] (ρ.t 72) (0, 0)))
  (hl : cs.length = l) (h1 : ∀ v ∈ cs, v.oneCell' = true)
  (hsrc : l = 0 ∨ ∃ g cur T fr, a = some ⟨g, 0, none⟩ ∧ w.heap[g]? = some (.cells cur T fr) ∧ cur.toList.take l = cs)
  (hn : n ≤ 274877906944) (hlim : l ≤ 274877906944) (hlc : l ≤ c) (hc : c ≤ 9223372036854775807) :
  Calls P (ρ.f 165) #[.pointer (some ⟨b, 0, none⟩), .int .i64 n] w0 fun e w' => e = .returned (.tuple #[]) ∧ w'.os = w.os ∧ w'.tape = w.tape ∧ w'.output = w.output ∧ (∀ i, i < w.heap.size → i ≠ b → w'.heap[i]? = w.heap[i]?) ∧
   (w'.heap.size = w.heap.size ∧ w'.heap[b]? = some (.cells #[.pointer (some ⟨b, 0, none⟩), .slice a l c] (ρ.t 72) (0, 0)) ∨
    ∃ xs : Array Value, l ≤ xs.size ∧ 0 < xs.size ∧ xs.size ≤ maxLen ∧ xs.toList.take l = cs ∧ w'.heap.size = w.heap.size + 1 ∧ w'.heap[w.heap.size]? = some (.cells xs (ρ.t 5) (0, 0)) ∧
     w'.heap[b]? = some (.cells #[.pointer (some ⟨b, 0, none⟩), .slice (some ⟨w.heap.size, 0, none⟩) l xs.size] (ρ.t 72) (0, 0))) := by
 have mixed := L.mixed
 have t72 := L.t72; have a72 := L.a72; have z72 := L.z72; have v72 := L.v72; have u72 := run_underlying L.t72
 have t70 := L.t70; have a70 := L.a70; have z70 := L.z70; have v70 := L.v70; have u70 := run_underlying L.t70
 have t37 := L.t37; have a37 := L.a37; have z37 := L.z37; have v37 := L.v37; have u37 := run_underlying L.t37
 have t3 := L.t3; have a3 := L.a3; have z3 := L.z3; have v3 := L.v3; have u3 := run_underlying L.t3
 have t9 := L.t9; have a9 := L.a9; have z9 := L.z9; have v9 := L.v9; have u9 := run_underlying L.t9
 have t4 := L.t4; have a4 := L.a4; have z4 := L.z4; have v4 := L.v4; have u4 := run_underlying L.t4
 have t164 := L.t164; have a164 := L.a164; have z164 := L.z164; have v164 := L.v164; have u164 := run_underlying L.t164
 have t5 := X.t5; have a5 := X.a5; have z5 := X.z5; have v5 := X.v5; have u5 := run_underlying X.t5
 have e240 : ∀ args w, (callFunc (ρ.f 240) args).run P w = .ok (.enter (ρ.f 240) args) w := enters_of L.f240 (by kernel_rfl) rfl
 have e241 : ∀ args w, (callFunc (ρ.f 241) args).run P w = .ok (.enter (ρ.f 241) args) w := enters_of L.f241 (by kernel_rfl) rfl
 go_enter L.f165, Body.n165_ntmps ρ
 go_wp2_with (go_at_fn (ρ.f 240); refine (h0 _ (by first | exact .inl rfl | exact .inr rfl)).mono ?_; rintro e w1 ⟨rfl, hh, ho, ht, hout⟩)
 have hb1 : w1.heap[b]? = some (.cells #[.pointer (some ⟨b, 0, none⟩), .slice a l c] (ρ.t 72) (0, 0)) := by rw [hh]; exact hbk
 have c1 : w1.cell? ⟨b, 1, none⟩ = some (.slice a l c) := by rw [Lib.cell_of_heap hb1]; rfl
 have c1' : w1.drew.cell? ⟨b, 1, none⟩ = some (.slice a l c) := c1
 go_region_o
 have hgrow : c < l + n → ∀ W : World, (W = w1.drew ∨ W = w1.drew.drew) → Calls P (ρ.f 241) #[.pointer (some ⟨b, 0, none⟩), .int .i64 n] W _ := fun hlt W hW => Any.grow_row { L with } X b n l c a cs W (by rcases hW with rfl | rfl <;> exact hb1) hl h1 (by
  rcases hsrc with h | ⟨g, cur, T, fr, h2, h3, h4⟩
  ·exact .inl h
  ·exact .inr ⟨g, cur, T, fr, h2, by rcases hW with rfl | rfl <;> exact (congrArg (fun h : Array Obj => h[g]?) hh).trans h3, h4⟩) (by omega) hlc
 go_wp2_with (go_at_fn (ρ.f 241); refine (hgrow (by omega) _ (by first | exact .inl rfl | exact .inr rfl)).mono ?_; rintro e w2 ⟨rfl, xs, q1, q2, q3, q4, q5, q6, q7, q8, q9, q10⟩)
 ·go_end0
  have hW : (w1.drew).heap = w.heap := hh
  refine ⟨rfl, q1.trans ho, q2.trans ht, q3.trans hout, fun i hi hib => ?_, .inr ⟨xs, by omega, by omega, q5, q6, ?_, ?_, ?_⟩⟩
  ·rw [q8 i (by first | exact hW ▸ hi | exact (show (w1.drew.drew).heap = w.heap from hh) ▸ hi) hib]
   exact congrArg (fun h : Array Obj => h[i]?) hh
  ·rw [q7]; exact congrArg (fun h : Array Obj => h.size + 1) hh
  ·rw [← hh]; exact q9
  ·rw [← hh]; exact q10
 ·go_end0
  exact ⟨rfl, ho, ht, hout, fun i _ _ => congrArg (fun h : Array Obj => h[i]?) hh, .inl ⟨congrArg Array.size hh, hb1⟩⟩

theorem Any.Grow (L : Lays.n165 P ρ) (X : Builder.Extra P ρ) (b n l c : Nat) (a : Option Addr) (cs : List Value) (p : Value) (w : World)
  (hp : p = .pointer none ∨ p = .pointer (some ⟨b, 0, none⟩))
  (hbk : w.heap[b]? = some (.cells #[p, .slice a l c] (ρ.t 72) (0, 0)))
  (hl : cs.length = l) (h1 : ∀ v ∈ cs, v.oneCell' = true)
  (hsrc : l = 0 ∨ ∃ g cur T fr, a = some ⟨g, 0, none⟩ ∧ g ≠ b ∧ w.heap[g]? = some (.cells cur T fr) ∧ cur.toList.take l = cs)
  (hn : n ≤ 274877906944) (hlim : l ≤ 274877906944) (hlc : l ≤ c) (hc : c ≤ 9223372036854775807) :
  Calls P (ρ.f 165) #[.pointer (some ⟨b, 0, none⟩), .int .i64 n] w fun e w' => e = .returned (.tuple #[]) ∧ w'.os = w.os ∧ w'.tape = w.tape ∧ w'.output = w.output ∧ (∀ i, i < w.heap.size → i ≠ b → w'.heap[i]? = w.heap[i]?) ∧
   (w'.heap.size = w.heap.size ∧ w'.heap[b]? = some (.cells #[.pointer (some ⟨b, 0, none⟩), .slice a l c] (ρ.t 72) (0, 0)) ∨
    ∃ xs : Array Value, l ≤ xs.size ∧ 0 < xs.size ∧ xs.size ≤ maxLen ∧ xs.toList.take l = cs ∧ w'.heap.size = w.heap.size + 1 ∧ w'.heap[w.heap.size]? = some (.cells xs (ρ.t 5) (0, 0)) ∧
     w'.heap[b]? = some (.cells #[.pointer (some ⟨b, 0, none⟩), .slice (some ⟨w.heap.size, 0, none⟩) l xs.size] (ρ.t 72) (0, 0))) := by
 rcases hp with rfl | rfl
 ·have hs1 : w.setCell ⟨b, 0, none⟩ (.pointer (some ⟨b, 0, none⟩)) = w.setRow b #[.pointer (some ⟨b, 0, none⟩), .slice a l c] := by rw [setCell_eq_setRow w b 0 _ _ _ _ hbk]; rfl
  have hb1 : (w.setCell ⟨b, 0, none⟩ (.pointer (some ⟨b, 0, none⟩))).heap[b]? = some (.cells #[.pointer (some ⟨b, 0, none⟩), .slice a l c] (ρ.t 72) (0, 0)) := by
   rw [hs1]; exact setRow_heap _ _ _ _ _ _ hbk
  have ho : ∀ i, i ≠ b → (w.setCell ⟨b, 0, none⟩ (.pointer (some ⟨b, 0, none⟩))).heap[i]? = w.heap[i]? := fun i hi => by rw [hs1]; exact setRow_other _ _ _ _ hi
  have hsz : (w.setCell ⟨b, 0, none⟩ (.pointer (some ⟨b, 0, none⟩))).heap.size = w.heap.size := by rw [hs1]; exact setRow_size _ _ _
  refine (Any.Grow_used L X b n l c a cs w (w.setCell ⟨b, 0, none⟩ (.pointer (some ⟨b, 0, none⟩))) ?_ hb1 hl h1 ?_ hn hlim hlc hc).mono ?_
  ·intro W hW
   have hWh : W.heap = w.heap := by rcases hW with rfl | rfl <;> rfl
   have hWb : W.heap[b]? = some (.cells #[.pointer none, .slice a l c] (ρ.t 72) (0, 0)) := by rw [hWh]; exact hbk
   refine (Any.Builder_copyCheck_fresh { L with } X.toX72 b W (by rw [Lib.cell_of_heap hWb]; rfl) (by simp [World.shape?, hWb]) (Lib.frozen_of_heap hWb 0)).mono ?_
   rintro e w' ⟨rfl, rfl⟩
   rcases hW with rfl | rfl <;> exact ⟨rfl, rfl, rfl, rfl, rfl⟩
  ·rcases hsrc with h | ⟨g, cur, T, fr, h2, h3, h4, h5⟩
   ·exact .inl h
   ·exact .inr ⟨g, cur, T, fr, h2, (ho g h3).trans h4, h5⟩
  ·rintro e w' ⟨h1, h2, h3, h4, h5, h6⟩
   rw [hsz] at h5 h6
   exact ⟨h1, h2, h3, h4, fun i hi hib => (h5 i hi hib).trans (ho i hib), h6⟩
 ·refine (Any.Grow_used L X b n l c a cs w w ?_ hbk hl h1 ?_ hn hlim hlc hc).mono fun e w' h => h
  ·intro W hW
   have hWh : W.heap = w.heap := by rcases hW with rfl | rfl <;> rfl
   have hWb : W.heap[b]? = some (.cells #[.pointer (some ⟨b, 0, none⟩), .slice a l c] (ρ.t 72) (0, 0)) := by rw [hWh]; exact hbk
   refine (Any.Builder_copyCheck_used { L with } X.toX72 b W (by rw [Lib.cell_of_heap hWb]; rfl)).mono ?_
   rintro e w' ⟨rfl, rfl⟩
   rcases hW with rfl | rfl <;> exact ⟨rfl, rfl, rfl, rfl, rfl⟩
  ·rcases hsrc with h | ⟨g, cur, T, fr, h2, h3, h4, h5⟩
   ·exact .inl h
   ·exact .inr ⟨g, cur, T, fr, h2, h4, h5⟩
end Go.Proofs
namespace Go.Vc
open Go.Proofs Go.Shelf
variable [Tabs] {P : Program} {ρ : Ren}
theorem byteV_one (bs : List UInt8) : ∀ v ∈ bs.map byteV, v.oneCell' = true := by
 intro v hv
 obtain ⟨x, _, rfl⟩ := List.mem_map.1 hv
 rfl
theorem Does.grow (L : Lays.n165 P ρ) (X : Builder.Extra P ρ) (n : Nat) (bs : List UInt8) (hn : n ≤ 274877906944) :
  Does P (ρ.f 165) [.ptr 0 0, .p (.i .i64 n)] [.cells (ρ.t 72) [.np 0, .buf 1], .sb (ρ.t 5) bs] (fun r Y => r = .tup [] ∧ Y = [.cells (ρ.t 72) [.np 0, .buf 1], .sb (ρ.t 5) bs]) := by
 refine ⟨⟨_, L.f165, by kernel_rfl, by kernel_rfl⟩, fun K G w vals hS hV => ?_⟩
 simp only [VRs, VR, DR] at hV
 obtain ⟨c0, r0, rfl, ⟨g0, b, hg0, hb0, rfl⟩, c1, r1, rfl, ⟨rfl, hfit⟩, rfl⟩ := hV
 obtain ⟨b', cs, q1, q2, q3⟩ := hS.ob 0 g0 _ hg0 rfl
 obtain rfl : b = b' := Option.some.inj (hb0.symm.trans q1)
 simp only [VRs, VR] at q3
 obtain ⟨p, rr, rfl, hp, sv, rr', rfl, ⟨g1, hg1, rfl, a, l, c, hsv⟩, rfl⟩ := q3
 have hp' : p = .pointer none ∨ p = .pointer (some ⟨b, 0, none⟩) := by
  rcases hp with h | ⟨g, b2, h1, h2, h3⟩
  ·exact .inl h
  ·rw [hg0] at h1; cases h1; rw [hb0] at h2; cases h2; exact .inr h3
 obtain ⟨hlim, hh⟩ := hS.ob 1 g1 _ hg1 rfl
 have hsrc : bs.length = l ∧ l ≤ c ∧ c ≤ 9223372036854775807 ∧ (l = 0 ∨ ∃ g cur T fr, a = some ⟨g, 0, none⟩ ∧ g ≠ b ∧ w.heap[g]? = some (.cells cur T fr) ∧ cur.toList.take l = bs.map byteV) := by
  rcases hh with ⟨e1, rfl, _⟩ | ⟨gb, cap, cur, fr, e1, e2, e3, e4, e5, e6, e7, e8, e9⟩
  ·rw [hsv] at e1; cases e1; exact ⟨rfl, by omega, by omega, .inl rfl⟩
  ·rw [hsv] at e1; cases e1
   refine ⟨rfl, e5, by simp only [maxLen] at e7; omega, .inr ⟨gb, cur, _, fr, rfl, ?_, e3, e9⟩⟩
   rintro rfl
   have := hS.inj 0 1 g0 g1 _ hg0 hg1 hb0 e2
   omega
 obtain ⟨hl, hlc, hc, hsrc⟩ := hsrc
 have hlim' : l ≤ 274877906944 := by rw [← hl]; exact hlim
 refine (Any.Grow L X b n l c a (bs.map byteV) p w hp' (by rw [hsv] at q2; exact q2) (by simpa using hl) (byteV_one bs) hsrc hn hlim' hlc hc).mono ?_
 rintro e w' ⟨rfl, ho, ht, hout, hfr, hcase⟩
 have hl0 : 0 < G.length := (List.getElem?_eq_some_iff.1 hg0).1
 have hl1 : 1 < G.length := (List.getElem?_eq_some_iff.1 hg1).1
 rcases hcase with ⟨hsz, hbk⟩ | ⟨xs, x1, x2, x3, x4, hsz, x5, x6⟩
 ·have hfr' : ∀ i, i ≠ b → w'.heap[i]? = w.heap[i]? := by
   intro i hi
   rcases Nat.lt_or_ge i w.heap.size with h | h
   ·exact hfr i h hi
   ·rw [Array.getElem?_eq_none h, Array.getElem?_eq_none (by omega)]
  refine ⟨.tuple #[], .tup [], _, K, G, rfl, ⟨rfl, rfl⟩, Ext.modA _ hg0 hb0 ho ht hout hsz hfr', hS.modA hg0 hb0 hsz hfr' (x := .cells (ρ.t 72) [.np 0, .buf 1]) ?_, ?_, ?_⟩
  ·refine ⟨b, [.pointer (some ⟨b, 0, none⟩), .slice a l c], hb0, hbk, ?_⟩
   simp only [VRs, VR]
   exact ⟨_, _, rfl, .inr ⟨g0, b, hg0, hb0, rfl⟩, _, _, rfl, ⟨g1, hg1, hsv.symm, a, l, c, hsv⟩, rfl⟩
  ·simp only [VR, VRs]; exact ⟨[], rfl, rfl⟩
  ·exact kinds_ok _
 ·have hG0 : (G.set 1 ⟨some w.heap.size, .slice (some ⟨w.heap.size, 0, none⟩) l xs.size, []⟩)[0]? = some g0 := by rw [List.getElem?_set_ne (by omega)]; exact hg0
  have hG1 : (G.set 1 ⟨some w.heap.size, .slice (some ⟨w.heap.size, 0, none⟩) l xs.size, []⟩)[1]? = some ⟨some w.heap.size, .slice (some ⟨w.heap.size, 0, none⟩) l xs.size, []⟩ := List.getElem?_set_self hl1
  have hblt := (hS.gb 0 g0 b hg0 hb0).1
  have s1 := hS.modB hg1 (w' := w.alloc (.cells xs (ρ.t 5))) (g1 := ⟨some w.heap.size, .slice (some ⟨w.heap.size, 0, none⟩) l xs.size, []⟩) (x := .sb (ρ.t 5) bs) (by rw [World.size_alloc]; omega) (fun i hi _ => heap_alloc_old w _ hi) (fun i hi => by obtain rfl := own_one hi; rw [World.size_alloc]; exact ⟨by omega, .inr (Nat.le_refl _)⟩) ⟨hlim, .inr ⟨w.heap.size, xs.size, xs, (0, 0), by rw [hl], rfl, heap_alloc_new w _, .inl rfl, by omega, x2, x3, rfl, by rw [hl]; exact x4⟩⟩
  have e1 := Ext.modB (K := K) (kp := kpf (kinds [.cells (ρ.t 72) [.np 0, .buf 1], .sb (ρ.t 5) bs])) (w := w) (w' := w.alloc (.cells xs (ρ.t 5))) hg1 (g1 := ⟨some w.heap.size, .slice (some ⟨w.heap.size, 0, none⟩) l xs.size, []⟩) rfl rfl rfl rfl (by rw [World.size_alloc]; omega) (fun i hi _ => heap_alloc_old w _ hi) (fun i hi => by obtain rfl := own_one hi; exact .inr (Nat.le_refl _))
  have hsz2 : w'.heap.size = (w.alloc (.cells xs (ρ.t 5))).heap.size := by rw [World.size_alloc, hsz]
  have hfr2 : ∀ i, i ≠ b → w'.heap[i]? = (w.alloc (.cells xs (ρ.t 5))).heap[i]? := by
   intro i hi
   rcases Nat.lt_trichotomy i w.heap.size with h | h | h
   ·rw [heap_alloc_old w _ h]; exact hfr i h hi
   ·subst h; rw [heap_alloc_new w _]; exact x5
   ·rw [Array.getElem?_eq_none (by omega), Array.getElem?_eq_none (by rw [World.size_alloc]; omega)]
  have s2 := s1.modA hG0 hb0 (w' := w') hsz2 hfr2 (x := .cells (ρ.t 72) [.np 0, .buf 1]) (by
   refine ⟨b, [.pointer (some ⟨b, 0, none⟩), .slice (some ⟨w.heap.size, 0, none⟩) l xs.size], hb0, x6, ?_⟩
   simp only [VRs, VR]
   exact ⟨_, _, rfl, .inr ⟨g0, b, hG0, hb0, rfl⟩, _, _, rfl, ⟨_, hG1, rfl, _, _, _, rfl⟩, rfl⟩)
  refine ⟨.tuple #[], .tup [], _, K, _, rfl, ⟨rfl, rfl⟩, e1.trans (Ext.modA _ hG0 hb0 ho ht hout hsz2 hfr2), s2, ?_, kinds_ok _⟩
  simp only [VR, VRs]; exact ⟨[], rfl, rfl⟩
end Go.Vc
