/- An abstract machine for the model: what it computes on, its operations, the walk of a body, and that all of it is true of the model (part 2). -/
import Derived.Test.YthofobeoaimclaaVc1
import Derived.Below
import Derived.Carry
import Derived.ChangeArms
import Derived.ChangeSame
import Derived.JoinedCond
import Derived.Orders
import Derived.ProofKit
/- The steps of a walk, ready to use; what the walk reckons with. -/
namespace Go.Vc

/-- 'This comes to that': an equation that is reckoned out on its left side alone. -/
def Is {α : Type} (x y : α) : Prop := x = y
theorem Is.mk {α : Type} {x : α} : Is x x := rfl

def callArgs (E : Env) (o : Oper) : Option (FuncId × List Va) := match o.op, o.guard with
  | .call c, none => match c.callee with
    | .value fop => match opnd E fop with
      | .fn f caps => some (f, opnds E c.args.toList ++ caps)
      | _ => none
    | _ => none
  | _, _ => none
def callArgsG (E : Env) (o : Oper) : Option (FuncId × List Va × Nat × Bool) := match o.op, o.guard with
  | .call c, some (j, want) => match c.callee with
    | .value fop => match opnd E fop with
      | .fn f caps => some (f, opnds E c.args.toList ++ caps, j, want)
      | _ => none
    | _ => none
  | _, _ => none
def callOk (n : Nat) (g : Bool) (E : Env) (o : Oper) : Prop := match o.op with
  | .call c => match c.callee with
    | .value fop => dstOk n o.dst ∧ opOk g E fop ∧ allOk g E c.args.toList
    | _ => False
  | _ => False

theorem callArgs_spec {E : Env} {o : Oper} {f : FuncId} {av : List Va} (h : callArgs E o = some (f, av)) : ∃ c fop caps, o.op = .call c ∧ o.guard = none ∧ c.callee = .value fop ∧ opnd E fop = .fn f caps ∧ av = opnds E c.args.toList ++ caps := by
  unfold callArgs at h
  split at h
  rotate_left
  · cases h
  rename_i c h1 h2
  split at h
  rotate_left
  · cases h
  rename_i fop h3
  split at h
  rotate_left
  · cases h
  rename_i f' caps h4
  cases h
  exact ⟨c, fop, caps, h1, h2, h3, h4, rfl⟩
theorem callOk_spec {n : Nat} {E : Env} {o : Oper} {g : Bool} (h : callOk n g E o) {c : Call} {fop : Operand} (h1 : o.op = .call c) (h2 : c.callee = .value fop) : dstOk n o.dst ∧ opOk g E fop ∧ allOk g E c.args.toList := by
  simpa only [callOk, h1, h2] using h


section
variable {P : Program} {kl : List Bool} {n : Nat} {B : Bs} {K : Env → List Ob → Prop} {E : Env} {H : List Ob} {ops : Array Oper} {Q : Qt}

theorem Wp.seqR {id : Nat} {l : List Oper} {y : Code} (h : ∀ K : Env → List Ob → Prop, (∀ E H, Wp P kl n B y Q E H → K E H) → RgEnd P kl n B l.toArray K (run1 P kl n l l ⟨E, H, True⟩)) : Wp P kl n B (.seq (.region id l.toArray false) y) Q E H :=
  Wp.seq fun _ hK => Wp.region fun K' hK' => h K' fun E' H' hy => hK' E' H' (hK E' H' hy)

/-- A call whose result is this value, and that gets no objects. -/
theorem Rg.callF {o : Oper} {l : List Oper} {f : FuncId} {av args : List Va} {v : Va} (hs : Does P f args [] fun r X => r = v ∧ X = []) (ha : Is (callArgs E o) (some (f, av))) (hp : Is (passVs av) (some args)) (hok : callOk n true E o)
    (cont : v.ok → RgEnd P kl n B ops K (run1 P kl n ops.toList l ⟨eput E o.dst v, H, True⟩)) : Rg P kl n B ops (o :: l) E H K := by
  obtain ⟨c, fop, caps, h1, h2, h3, h4, rfl⟩ := callArgs_spec ha
  obtain ⟨hd, hk⟩ := callOk_spec hok h1 h3
  exact Rg.call hs h1 h2 h3 hd hk h4 hp fun r X' ⟨hr, hX⟩ hv => ⟨hX, hr ▸ Rg.run (cont (hr ▸ hv))⟩
/-- A call of which the result is said by Post, and that gets no objects. -/
theorem Rg.callP {o : Oper} {l : List Oper} {f : FuncId} {av args : List Va} {Post : Va → List Ob → Prop} (hs : Does P f args [] Post) (ha : Is (callArgs E o) (some (f, av))) (hp : Is (passVs av) (some args)) (hok : callOk n true E o)
    (cont : ∀ r X', Post r X' → r.ok → X' = [] ∧ RgEnd P kl n B ops K (run1 P kl n ops.toList l ⟨eput E o.dst r, H, True⟩)) : Rg P kl n B ops (o :: l) E H K := by
  obtain ⟨c, fop, caps, h1, h2, h3, h4, rfl⟩ := callArgs_spec ha
  obtain ⟨hd, hk⟩ := callOk_spec hok h1 h3
  exact Rg.call hs h1 h2 h3 hd hk h4 hp fun r X' hr hv => ⟨(cont r X' hr hv).1, Rg.run (cont r X' hr hv).2⟩
/-- A call to which objects are lent; its result names no memory. -/
theorem Rg.callLF {o : Oper} {l : List Oper} {f : FuncId} {av args : List Va} {v : Va} (hs : Does P f args [] fun r X => r = v ∧ X = []) (ha : Is (callArgs E o) (some (f, av))) (hp : Is (lendVs H av) (some args)) (hok : callOk n true E o) (hf : Is v.flat true)
    (cont : v.ok → RgEnd P kl n B ops K (run1 P kl n ops.toList l ⟨eput E o.dst v, H, True⟩)) : Rg P kl n B ops (o :: l) E H K := by
  obtain ⟨c, fop, caps, h1, h2, h3, h4, rfl⟩ := callArgs_spec ha
  obtain ⟨hd, hk⟩ := callOk_spec hok h1 h3
  exact Rg.callL hs h1 h2 h3 hd hk h4 hp fun r X' ⟨hr, _⟩ hv => ⟨hr ▸ hf, hr ▸ Rg.run (cont (hr ▸ hv))⟩
/-- A call under a guard. -/
theorem Rg.callGF {o : Oper} {l : List Oper} {f : FuncId} {av args : List Va} {j : Nat} {want g : Bool} {v : Va} (hs : g = true → Does P f args [] fun r X => r = v ∧ X = []) (ha : Is (callArgsG E o) (some (f, av, j, want))) (hb : Is (guardB ops.toList E j want) (some g)) (hp : Is (lendVs H av) (some args)) (hok : callOk n g E o) (hf : Is v.flat true)
    (cont : (g = true → v.ok) → RgEnd P kl n B ops K (run1 P kl n ops.toList l ⟨eput E o.dst (.cnd g v), H, True⟩)) : Rg P kl n B ops (o :: l) E H K := by
  unfold Is callArgsG at ha
  split at ha
  rotate_left
  · cases ha
  rename_i c j' want' h1 h2
  split at ha
  rotate_left
  · cases ha
  rename_i fop h3
  split at ha
  rotate_left
  · cases ha
  rename_i f' caps h4
  cases ha
  obtain ⟨hd, hk⟩ := callOk_spec hok h1 h3
  exact Rg.callG v hs h1 h2 hb h3 hd hk h4 hp hf fun hv => Rg.run (cont hv)
end

theorem pick_or (a b : Bool) : (bif a then true else b) = (a || b) := by cases a <;> rfl
theorem pick_and (a b : Bool) : (bif a then b else false) = (a && b) := by cases a <;> rfl
theorem beq_t (a : Bool) : (a == true) = a := by cases a <;> rfl
theorem beq_f (a : Bool) : (a == false) = !a := by cases a <;> rfl
theorem nott (a : Bool) : ((!a) = true) = (a = false) := by cases a <;> simp
theorem obAt_nil (n : Nat) : obAt [] n = .gone := rfl

attribute [go_sem] run1 isStop clOf stp1 stpP stpE stpG RgEnd pureV opnd opOk rnd rndOk cvOk cv strip condOf eget eput envOf dstOk guardB also binV binI binS pickV oOk allOk partsOk partsV opnds
  effV allocV boxV bslV storeV bytesV makeV appV srcRows srcOk rowsOf loadV idxAddrV fieldAddrV fieldV indexV extractV sliceV cutKind unV convV lenV buildV mmV nilV eqOp pures
  obAt atV hdD cellsV setR setRd fillV placeS fillRows zerosOk dts pruneE pruneH Va.prune Va.prunes Va.all Va.alls Ob.prune kpf kinds placeI bndOk leOk cutS Va.isCell allOne
  callArgs callArgsG callOk passV passVs lendV lendVs Va.flat Va.flats hasKs eqRow thenQ blockQ leE leH leO leV leVs allE allH Ob.all Weak
  retQ RetOk resV resL res1 outV outVs outO outH Va.ok Va.oks Ob.ok DtOk DtOks
  pick_or pick_and beq_t beq_f nott Option.map_none Option.map_some
  Bool.false_eq_true if_false if_true true_and and_true Nat.zero_add Nat.add_zero imp_self forall_const implies_true List.getElem?_cons_zero List.getElem?_cons_succ ite_true ite_false
  cond_true cond_false List.map_cons List.map_nil List.length_cons List.length_nil List.take_succ_cons List.take_zero List.take_nil List.drop_succ_cons List.drop_zero List.drop_nil List.cons_append List.nil_append List.set_cons_zero List.set_cons_succ
  List.getD_cons_zero List.getD_cons_succ decide_true decide_false Bool.and_true Bool.true_and Bool.not_true Bool.not_false Nat.lt_irrefl not_false_eq_true ne_eq List.append_nil Bool.and_self
end Go.Vc
/- An operation's answer hangs on the slots that it names. -/
namespace Go.Vc

def Agree (xs : List Operand) (E E' : Env) : Prop := ∀ x ∈ xs, rnd E x = rnd E' x
section
variable {P : Program} {g : Bool} {E E' : Env} {H : List Ob}

theorem Agree.opnd {x : Operand} (h : rnd E x = rnd E' x) : Vc.opnd E x = Vc.opnd E' x := by unfold Vc.opnd; rw [h]
theorem Agree.opOk {x : Operand} (h : rnd E x = rnd E' x) : Vc.opOk g E x = Vc.opOk g E' x := by unfold Vc.opOk; rw [h]
theorem Agree.opnds : ∀ {xs : List Operand}, Agree xs E E' → Vc.opnds E xs = Vc.opnds E' xs
  | [], _ => rfl
  | x :: xs, h => by simp only [Vc.opnds]; rw [Agree.opnd (h x (by simp)), Agree.opnds fun y hy => h y (by simp [hy])]
theorem Agree.allOk : ∀ {xs : List Operand}, Agree xs E E' → Vc.allOk g E xs = Vc.allOk g E' xs
  | [], _ => rfl
  | x :: xs, h => by simp only [Vc.allOk]; rw [Agree.opOk (h x (by simp)), Agree.allOk fun y hy => h y (by simp [hy])]
theorem Agree.partsV : ∀ {xs : List (Nat × Operand)}, (∀ x ∈ xs, rnd E x.2 = rnd E' x.2) → Vc.partsV E xs = Vc.partsV E' xs
  | [], _ => rfl
  | x :: xs, h => by simp only [Vc.partsV]; rw [Agree.opnd (h x (by simp)), Agree.partsV fun y hy => h y (by simp [hy])]
theorem Agree.partsOk : ∀ {xs : List (Nat × Operand)}, (∀ x ∈ xs, rnd E x.2 = rnd E' x.2) → Vc.partsOk g E xs = Vc.partsOk g E' xs
  | [], _ => rfl
  | x :: xs, h => by simp only [Vc.partsOk]; rw [Agree.opOk (h x (by simp)), Agree.partsOk fun y hy => h y (by simp [hy])]
theorem Agree.oOk {x : Option Operand} (h : ∀ y, x = some y → rnd E y = rnd E' y) : Vc.oOk g E x = Vc.oOk g E' x := by
  cases x with
  | none => rfl
  | some y => exact Agree.opOk (h y rfl)
theorem Agree.mapO {x : Option Operand} (h : ∀ y, x = some y → rnd E y = rnd E' y) : x.map (Vc.opnd E) = x.map (Vc.opnd E') := by
  cases x with
  | none => rfl
  | some y => exact congrArg some (Agree.opnd (h y rfl))

theorem pureV_congr (op : Op) (h : Agree op.operands.toList E E') : pureV P g E H op = pureV P g E' H op := by
  unfold Agree at h
  cases op with
  | move x => have h := h x (by simp [Op.operands]); simp only [pureV, Agree.opnd h, Agree.opOk h]
  | assign x => have h := h x (by simp [Op.operands]); simp only [pureV, Agree.opnd h, Agree.opOk h]
  | pick c a b =>
    have h1 := h c (by simp [Op.operands]); have h2 := h a (by simp [Op.operands]); have h3 := h b (by simp [Op.operands])
    simp only [pureV, Agree.opnd h1, Agree.opOk h1, h2, h3]
  | build t ps =>
    have hp : ∀ x ∈ ps.toList, rnd E x.2 = rnd E' x.2 := fun x hx => h x.2 (by simp only [Op.operands, List.mem_map]; exact ⟨x, hx, rfl⟩)
    simp only [pureV, Agree.partsV hp, Agree.partsOk hp]
  | load t x => have h := h x (by simp [Op.operands]); simp only [pureV, Agree.opnd h, Agree.opOk h]
  | nilCheck x => have h := h x (by simp [Op.operands]); simp only [pureV, Agree.opnd h, Agree.opOk h]
  | binOp op t x y u =>
    have h1 := h x (by simp [Op.operands]); have h2 := h y (by simp [Op.operands])
    simp only [pureV, Agree.opnd h1, Agree.opOk h1, Agree.opnd h2, Agree.opOk h2]
  | unOp op t x => have h := h x (by simp [Op.operands]); simp only [pureV, Agree.opnd h, Agree.opOk h]
  | convert s d x => have h := h x (by simp [Op.operands]); simp only [pureV, Agree.opnd h, Agree.opOk h]
  | makeFunc fn first caps =>
    have hc : Agree caps.toList E E' := fun x hx => h x (by simp only [Op.operands, Array.toList_append, List.mem_append]; exact .inr hx)
    simp only [pureV, Agree.opnds hc, Agree.allOk hc]
  | slice t x l hi m =>
    have h1 := h x (by simp [Op.operands])
    have h2 : ∀ y, l = some y → rnd E y = rnd E' y := fun y e => h y (by simp [Op.operands, e])
    have h3 : ∀ y, hi = some y → rnd E y = rnd E' y := fun y e => h y (by simp [Op.operands, e])
    have h4 : ∀ y, m = some y → rnd E y = rnd E' y := fun y e => h y (by simp [Op.operands, e])
    simp only [pureV, Agree.opnd h1, Agree.opOk h1, Agree.oOk h2, Agree.oOk h3, Agree.oOk h4, Agree.mapO h2, Agree.mapO h3, Agree.mapO h4]
  | fieldAddr t x f => have h := h x (by simp [Op.operands]); simp only [pureV, Agree.opnd h, Agree.opOk h]
  | field t x f => have h := h x (by simp [Op.operands]); simp only [pureV, Agree.opnd h, Agree.opOk h]
  | indexAddr t x y =>
    have h1 := h x (by simp [Op.operands]); have h2 := h y (by simp [Op.operands])
    simp only [pureV, Agree.opnd h1, Agree.opOk h1, Agree.opnd h2, Agree.opOk h2]
  | index t x y =>
    have h1 := h x (by simp [Op.operands]); have h2 := h y (by simp [Op.operands])
    simp only [pureV, Agree.opnd h1, Agree.opOk h1, Agree.opnd h2, Agree.opOk h2]
  | extract x i => have h := h x (by simp [Op.operands]); simp only [pureV, Agree.opnd h, Agree.opOk h]
  | call c =>
    have ha : ∀ x ∈ c.args.toList, rnd E x = rnd E' x := fun x hx => h x (by simp only [Op.operands, Call.operands, Array.toList_append, List.mem_append]; exact .inr hx)
    simp only [pureV]
    split
    · rename_i x t _ _ h2 _
      have h := ha x (by rw [h2]; simp)
      simp only [Agree.opnd h, Agree.opOk h]
    · rename_i x y _ h2
      have h1 := ha x (by rw [h2]; simp); have h2 := ha y (by rw [h2]; simp)
      simp only [Agree.opnd h1, Agree.opOk h1, Agree.opnd h2, Agree.opOk h2]
    · rename_i x y _ h2
      have h1 := ha x (by rw [h2]; simp); have h2 := ha y (by rw [h2]; simp)
      simp only [Agree.opnd h1, Agree.opOk h1, Agree.opnd h2, Agree.opOk h2]
    · rfl
  | _ => rfl

/-- The object of which an effect makes old names stale. -/
def effP (E : Env) : Op → Option Nat
  | .call c => match c.args.toList with
    | [x, _] => match Vc.opnd E x with
      | .buf o => some o
      | _ => none
    | _ => none
  | _ => none
def pruneO : Option Nat → Va → Va
  | none, v => v
  | some o, v => v.prune (· != o)
/-- Two effects that are alike but for the frame that they leave, and what they leave of it. -/
def Alike (po : Option Nat) (E' : Env) (r r' : Ev) : Prop := r'.v = r.v ∧ r'.H = r.H ∧ r'.ok = r.ok ∧ (r.ok → ∀ m, eget r'.E m = pruneO po (eget E' m))

theorem alike_bad {po : Option Nat} : Alike po E' badE badE := ⟨rfl, rfl, rfl, fun h => h.elim⟩
theorem alike_none {v : Va} {Hn : List Ob} {ok : Prop} : Alike none E' ⟨v, E, Hn, ok⟩ ⟨v, E', Hn, ok⟩ := ⟨rfl, rfl, rfl, fun _ _ => rfl⟩
theorem Alike.also {po : Option Nat} {r r' : Ev} {c d c' d' : Prop} (h : Alike po E' r r') (hc : c = c') (hd : d = d') : Alike po E' ⟨r.v, r.E, r.H, c ∧ d ∧ r.ok⟩ ⟨r'.v, r'.E, r'.H, c' ∧ d' ∧ r'.ok⟩ := by
  subst hc; subst hd
  exact ⟨h.1, h.2.1, by simp only [h.2.2.1], fun k => h.2.2.2 k.2.2⟩
theorem Alike.also1 {po : Option Nat} {r r' : Ev} {c c' : Prop} (h : Alike po E' r r') (hc : c = c') : Alike po E' ⟨r.v, r.E, r.H, c ∧ r.ok⟩ ⟨r'.v, r'.E, r'.H, c' ∧ r'.ok⟩ := by
  subst hc
  exact ⟨h.1, h.2.1, by simp only [h.2.2.1], fun k => h.2.2.2 k.2⟩
theorem effV_congr {kp : Nat → Bool} (op : Op) (h : Agree op.operands.toList E E') : Alike (effP E op) E' (effV P kp E H op) (effV P kp E' H op) := by
  unfold Agree at h
  cases op with
  | alloc t =>
    simp only [effV, allocV, effP]
    split
    · exact alike_none
    · exact alike_bad
  | box t x =>
    have h := h x (by simp [Op.operands])
    simp only [effV, boxV, effP, Agree.opnd h, Agree.opOk h]
    exact alike_none
  | buildSlice t n ps =>
    have hp : ∀ x ∈ ps.toList, rnd E x.2 = rnd E' x.2 := fun x hx => h x.2 (by simp only [Op.operands, List.mem_map]; exact ⟨x, hx, rfl⟩)
    simp only [effV, bslV, effP, Agree.partsV hp, Agree.partsOk hp]
    repeat' split
    all_goals first | exact alike_none | exact alike_bad
  | store t x y =>
    have h1 := h x (by simp [Op.operands]); have h2 := h y (by simp [Op.operands])
    simp only [effV, effP, Agree.opnd h1, Agree.opnd h2]
    refine Alike.also ?_ (Agree.opOk h1) (Agree.opOk h2)
    unfold storeV
    repeat' split
    all_goals first | exact alike_none | exact alike_bad
  | convert s d x =>
    have h1 := h x (by simp [Op.operands])
    simp only [effV, effP, Agree.opnd h1]
    refine Alike.also1 ?_ (Agree.opOk h1)
    unfold bytesV
    repeat' split
    all_goals first | exact alike_none | exact alike_bad
  | makeSlice t l c =>
    have h1 := h l (by simp [Op.operands]); have h2 := h c (by simp [Op.operands])
    simp only [effV, effP, Agree.opnd h1, Agree.opnd h2]
    refine Alike.also ?_ (Agree.opOk h1) (Agree.opOk h2)
    unfold makeV
    repeat' split
    all_goals first | exact alike_none | exact alike_bad
  | call c =>
    have ha : ∀ x ∈ c.args.toList, rnd E x = rnd E' x := fun x hx => h x (by simp only [Op.operands, Call.operands, Array.toList_append, List.mem_append]; exact .inr hx)
    simp only [effV]
    split
    · rename_i x y t u _ hxy _
      have h1 := ha x (by rw [hxy]; simp); have h2 := ha y (by rw [hxy]; simp)
      simp only [Agree.opnd h1, Agree.opnd h2]
      refine Alike.also ?_ (Agree.opOk h1) (Agree.opOk h2)
      simp only [effP, hxy, Agree.opnd h1]
      generalize Vc.opnd E' x = dst
      unfold appV
      cases dst
      case buf o =>
        simp only []
        repeat' split
        all_goals first | exact alike_bad | exact ⟨rfl, rfl, rfl, fun _ m => get_pruneE _ E' m⟩
      all_goals
        simp only []
        repeat' split
        all_goals first | exact alike_bad | exact alike_none
    · exact alike_bad
  | _ => exact alike_bad
end
end Go.Vc
/- Regions that draw their order: one walk, in an order of our choice, serves every order. -/
namespace Go.Vc

/-- The operands that an operation looks at, its guard's slot among them. -/
def looks (ops : Array Oper) (i : Nat) : List Operand := match ops[i]? with
  | some o => o.op.operands.toList ++ match o.guard with
    | some (j, _) => match (ops[j]?).bind (·.dst) with
      | some d => [.tmp d]
      | none => []
    | none => []
  | none => []
def dstOf (ops : Array Oper) (i : Nat) : Option Tmp := (ops[i]?).bind (·.dst)
def pE : Option Nat → Env → Env
  | none, E => E
  | some o, E => pruneE (· != o) E
theorem get_pE (po : Option Nat) (E : Env) (m : Nat) : eget (pE po E) m = pruneO po (eget E m) := by
  cases po with
  | none => rfl
  | some o => exact get_pruneE _ E m
theorem get_eput (E : Env) (d : Option Tmp) (v : Va) (m : Nat) : eget (eput E d v) m = if d = some m then v else eget E m := by
  cases d with
  | none => simp [eput]
  | some d => simp only [eput, eget, Option.some.injEq]

theorem Rel.ext {C : Cx} {E E' : Env} {H : List Ob} {a : Act} {w : World} (h : ∀ m, eget E m = eget E' m) (hR : Rel C E H a w) : Rel C E' H a w := by
  obtain ⟨K, G, h1, h2, h3, h4⟩ := hR
  exact ⟨K, G, h1, h2, fun m => by rw [← h m]; exact h3 m, h4⟩
theorem Rel.drew {C : Cx} {E : Env} {H : List Ob} {a : Act} {w : World} (hR : Rel C E H a w) (d : Nat) : Rel C E H a { w with drawn := d } := by
  obtain ⟨K, G, h1, h2, h3, h4⟩ := hR
  exact ⟨K, G, { h1 with }, { h2 with }, h3, h4⟩

section
variable (P : Program) (kl : List Bool) (n : Nat) (B : Bs) (ops : Array Oper)

/-- From every state that fits the one the operation goes on to a state that fits the other. -/
def Stp (i : Nat) (E : Env) (H : List Ob) (E' : Env) (H' : List Ob) : Prop :=
  ∀ (a : Act) (w : World) (Q : Exit → Act → World → Prop) (K : Act → World → Prop), Rel (cx P kl n B) E H a w → (∀ a' w', Rel (cx P kl n B) E' H' a' w' → K a' w') → wpOp P ops Q i K a w
def Rdr (i : Nat) (S : Env) (v : Va) (H : List Ob) : Prop := ∀ E, Agree (looks ops i) S E → Stp P kl n B ops i E H (eput E (dstOf ops i) v) H
def Efr (i : Nat) (S : Env) (v : Va) (po : Option Nat) (H H' : List Ob) : Prop := ∀ E, Agree (looks ops i) S E → Stp P kl n B ops i E H (eput (pE po E) (dstOf ops i) v) H'

/-- An operation that was taken ahead of its time. -/
structure Pd where
  k : Nat
  S : Env
  v : Va
def Again (e : Pd) (po : Option Nat) (H' : List Ob) : Prop := Rdr P kl n B ops e.k e.S e.v H' ∧ pruneO po e.v = e.v ∧ Agree (looks ops e.k) e.S (pE po e.S)

def predsOf (i : Nat) : List Nat := match ops[i]? with
  | some o => (o.after.toList.filter (Region.binds .any ·)).map (·.on)
  | none => []
def clo : Nat → List Nat → List Nat
  | 0, L => L
  | m + 1, L => clo m ((L ++ L.flatMap (predsOf ops)).eraseDups)
def anc (i k : Nat) : Bool := (clo ops 24 (predsOf ops i)).contains k
/-- What has come up is closed under 'waits for'. -/
def DC (listed : Array Bool) : Prop := ∀ i, listed.getD i false = true → ∀ j ∈ predsOf ops i, listed.getD j false = true

def AnyO (K : Env → List Ob → Prop) : Nat → List Pd → Array Bool → Env → List Ob → Prop
  | 0, _, listed, E, H => Region.ready .any ops listed = [] ∧ ∃ E2, (∀ m, eget E m = eget E2 m) ∧ K E2 H
  | f + 1, obs, listed, E, H => (Region.ready .any ops listed = [] → ∃ E2, (∀ m, eget E m = eget E2 m) ∧ K E2 H) ∧
    ∀ i ∈ Region.ready .any ops listed, ∃ v, (Rdr P kl n B ops i E v H ∧ AnyO K f obs (listed.setIfInBounds i true) (eput E (dstOf ops i) v) H) ∨
      (∃ po H', Efr P kl n B ops i E v po H H' ∧ (∀ e ∈ obs, anc ops i e.k = false → Again P kl n B ops e po H') ∧ AnyO K f obs (listed.setIfInBounds i true) (eput (pE po E) (dstOf ops i) v) H')
end

section
variable {P : Program} {kl : List Bool} {n : Nat} {B : Bs} {ops : Array Oper} {K : Env → List Ob → Prop}

theorem clo_ok {listed : Array Bool} (hD : DC ops listed) : ∀ (m : Nat) (L : List Nat), (∀ x ∈ L, listed.getD x false = true) → ∀ x ∈ clo ops m L, listed.getD x false = true
  | 0, L, h => h
  | m + 1, L, h => clo_ok hD m _ fun x hx => by
    rw [List.mem_eraseDups, List.mem_append, List.mem_flatMap] at hx
    rcases hx with hx | ⟨y, hy, hx⟩
    · exact h x hx
    · exact hD y (h y hy) x hx
theorem ready_preds {listed : Array Bool} {i : Nat} (h : i ∈ Region.ready .any ops listed) : ∀ j ∈ predsOf ops i, listed.getD j false = true := by
  obtain ⟨_, o, ho, hall⟩ := mem_ready.1 h
  intro j hj
  simp only [predsOf, ho, List.mem_map, List.mem_filter] at hj
  obtain ⟨e, ⟨he, hb⟩, rfl⟩ := hj
  exact hall e (by simpa using he) hb
theorem anc_ok {listed : Array Bool} (hD : DC ops listed) {i k : Nat} (h : i ∈ Region.ready .any ops listed) (hk : listed.getD k false = false) : anc ops i k = false := by
  cases e : anc ops i k with
  | false => rfl
  | true =>
    have := clo_ok hD 24 _ (ready_preds h) k (by simpa [anc] using e)
    rw [this] at hk; cases hk
theorem getD_set_inv {listed : Array Bool} {i j : Nat} (h : (listed.setIfInBounds i true).getD j false = true) : j = i ∨ listed.getD j false = true := by
  by_cases e : i = j
  · exact .inl e.symm
  · rw [getD_set_ne false e] at h; exact .inr h
theorem DC.set {listed : Array Bool} (hD : DC ops listed) {i : Nat} (h : i ∈ Region.ready .any ops listed) : DC ops (listed.setIfInBounds i true) := by
  intro x hx j hj
  rcases getD_set_inv hx with rfl | hx
  · exact getD_set_true (ready_preds h j hj)
  · exact getD_set_true (hD x hx j hj)
theorem Agree.refl (xs : List Operand) (E : Env) : Agree xs E E := fun _ _ => rfl
theorem Agree.trans {xs : List Operand} {E E' E2 : Env} (h : Agree xs E E') (k : Agree xs E' E2) : Agree xs E E2 := fun x hx => (h x hx).trans (k x hx)
theorem Agree.symm {xs : List Operand} {E E' : Env} (h : Agree xs E E') : Agree xs E' E := fun x hx => (h x hx).symm
theorem Agree.of_get {xs : List Operand} {E E' : Env} (h : ∀ m, eget E m = eget E' m) : Agree xs E E' := fun x _ => by
  cases x <;> first | rfl | exact h _
theorem Agree.put {xs : List Operand} {d : Option Tmp} (h : ∀ s, d = some s → .tmp s ∉ xs) (E : Env) (v : Va) : Agree xs E (eput E d v) := fun x hx => by
  cases x with
  | tmp t => simp only [rnd, get_eput]; rw [if_neg fun e => h t e hx]
  | _ => rfl
theorem Rdr.agree {i : Nat} {S S' : Env} {v : Va} {H : List Ob} (h : Rdr P kl n B ops i S v H) (k : Agree (looks ops i) S S') : Rdr P kl n B ops i S' v H := fun E hE => h E (k.trans hE)
theorem Efr.agree {i : Nat} {S S' : Env} {v : Va} {po : Option Nat} {H H' : List Ob} (h : Efr P kl n B ops i S v po H H') (k : Agree (looks ops i) S S') : Efr P kl n B ops i S' v po H H' := fun E hE => h E (k.trans hE)
theorem pE_agree {xs : List Operand} {po : Option Nat} {S S' : Env} (h : Agree xs S S') : Agree xs (pE po S) (pE po S') := fun x hx => by
  have := h x hx
  cases x with
  | tmp t => simp only [rnd, get_pE] at *; rw [this]
  | _ => rfl
theorem Again.agree {e : Pd} {S' : Env} {po : Option Nat} {H' : List Ob} (h : Again P kl n B ops e po H') (k : Agree (looks ops e.k) e.S S') : Again P kl n B ops ⟨e.k, S', e.v⟩ po H' :=
  ⟨h.1.agree k, h.2.1, (k.symm.trans h.2.2).trans (pE_agree k)⟩

theorem AnyO.tail {e : Pd} : ∀ (f : Nat) {obs : List Pd} {listed : Array Bool} {E : Env} {H : List Ob}, AnyO P kl n B ops K f (e :: obs) listed E H → AnyO P kl n B ops K f obs listed E H
  | 0, _, _, _, _, h => h
  | f + 1, _, _, _, _, h => ⟨h.1, fun i hi => by
    obtain ⟨v, h1 | ⟨po, H', h1, h2, h3⟩⟩ := h.2 i hi
    · exact ⟨v, .inl ⟨h1.1, AnyO.tail f h1.2⟩⟩
    · exact ⟨v, .inr ⟨po, H', h1, fun e' he => h2 e' (List.mem_cons_of_mem _ he), AnyO.tail f h3⟩⟩⟩
theorem AnyO.swap {k : Nat} {S S' : Env} {v : Va} (hk : Agree (looks ops k) S S') : ∀ (f : Nat) {obs : List Pd} {listed : Array Bool} {E : Env} {H : List Ob}, AnyO P kl n B ops K f (⟨k, S, v⟩ :: obs) listed E H → AnyO P kl n B ops K f (⟨k, S', v⟩ :: obs) listed E H
  | 0, _, _, _, _, h => h
  | f + 1, _, _, _, _, h => ⟨h.1, fun i hi => by
    obtain ⟨v, h1 | ⟨po, H', h1, h2, h3⟩⟩ := h.2 i hi
    · exact ⟨v, .inl ⟨h1.1, AnyO.swap hk f h1.2⟩⟩
    · refine ⟨v, .inr ⟨po, H', h1, fun e' he ha => ?_, AnyO.swap hk f h3⟩⟩
      rcases List.mem_cons.1 he with rfl | he
      · exact (h2 _ (List.mem_cons_self ..) ha).agree hk
      · exact h2 e' (List.mem_cons_of_mem _ he) ha⟩
theorem AnyO.ext : ∀ (f : Nat) {obs : List Pd} {listed : Array Bool} {E E' : Env} {H : List Ob}, (∀ m, eget E m = eget E' m) → AnyO P kl n B ops K f obs listed E H → AnyO P kl n B ops K f obs listed E' H
  | 0, _, _, _, _, _, he, h => ⟨h.1, by obtain ⟨E2, h1, h2⟩ := h.2; exact ⟨E2, fun m => (he m).symm.trans (h1 m), h2⟩⟩
  | f + 1, _, _, E, E', _, he, h => ⟨fun hr => by obtain ⟨E2, h1, h2⟩ := h.1 hr; exact ⟨E2, fun m => (he m).symm.trans (h1 m), h2⟩, fun i hi => by
    obtain ⟨v, h1 | ⟨po, H', h1, h2, h3⟩⟩ := h.2 i hi
    · exact ⟨v, .inl ⟨h1.1.agree (Agree.of_get he), AnyO.ext f (fun m => by simp only [get_eput]; split; rfl; exact he m) h1.2⟩⟩
    · exact ⟨v, .inr ⟨po, H', h1.agree (Agree.of_get he), h2, AnyO.ext f (fun m => by simp only [get_eput, get_pE]; split; rfl; rw [he m]) h3⟩⟩⟩

theorem apart_looks {i j : Nat} {oi oj : Oper} (hi : ops[i]? = some oi) (hj : ops[j]? = some oj) (h : oi.apart ops oj = true) :
    (∀ d, dstOf ops i = some d → .tmp d ∉ looks ops j) ∧ (∀ d, dstOf ops j = some d → .tmp d ∉ looks ops i) ∧ (∀ d, dstOf ops i = some d → dstOf ops j ≠ some d) := by
  obtain ⟨h1, h2, h3⟩ := Oper.apart_spec h
  have key : ∀ (k : Nat) (o : Oper) (d : Tmp), ops[k]? = some o → .tmp d ∈ looks ops k → d ∈ o.looksAt ops := by
    intro k o d ho hm
    simp only [looks, ho, List.mem_append] at hm
    unfold Oper.looksAt
    rw [List.mem_append]
    rcases hm with hm | hm
    · exact .inl (List.mem_filterMap.2 ⟨.tmp d, by simpa using hm, rfl⟩)
    · refine .inr ?_
      cases hg : o.guard with
      | none => rw [hg] at hm; simp at hm
      | some gw =>
        obtain ⟨g, want⟩ := gw
        rw [hg] at hm
        simp only at hm ⊢
        cases hd : (ops[g]?).bind (·.dst) with
        | none => rw [hd] at hm; simp at hm
        | some t => rw [hd] at hm; simp at hm ⊢; exact hm
  simp only [dstOf, hi, hj, Option.bind_some]
  exact ⟨fun d hd hm => h1 d hd (key j oj d hj hm), fun d hd hm => h3 d hd (key i oi d hi hm), h2⟩

/-- **A reader that may come up now may be taken first.** -/
theorem AnyO.first {k : Nat} {ok : Oper} {v : Va} (hk : ops[k]? = some ok) : ∀ (f : Nat) {obs : List Pd} {listed : Array Bool} {E : Env} {H : List Ob},
    (∀ j oj, ops[j]? = some oj → j ≠ k → listed.getD j true = false → (∀ e ∈ oj.after, Region.binds .any e = true → e.on ≠ k) → ok.apart ops oj = true) → DC ops listed →
    k ∈ Region.ready .any ops listed → Rdr P kl n B ops k E v H → AnyO P kl n B ops K f (⟨k, E, v⟩ :: obs) (listed.setIfInBounds k true) (eput E (dstOf ops k) v) H → AnyO P kl n B ops K (f + 1) obs listed E H := by
  intro f
  induction f with
  | zero =>
    intro obs listed E H _ _ hr hv h
    refine ⟨fun e => (by rw [e] at hr; cases hr), fun j hj => ?_⟩
    by_cases e : j = k
    · subst e; exact ⟨v, .inl ⟨hv, AnyO.tail 0 h⟩⟩
    · have := ready_mono hj e
      rw [h.1] at this; cases this
  | succ f ih =>
    intro obs listed E H hfree hD hr hv h
    refine ⟨fun e => (by rw [e] at hr; cases hr), fun j hj => ?_⟩
    by_cases e : j = k
    · subst e; exact ⟨v, .inl ⟨hv, AnyO.tail (f + 1) h⟩⟩
    obtain ⟨hjun, oj, hoj, hall⟩ := mem_ready.1 hj
    have hkun := (mem_ready.1 hr).1
    have hkf : listed.getD k false = false := by
      rcases Nat.lt_or_ge k listed.size with h' | h'
      · simp [h'] at hkun ⊢; exact hkun
      · simp [h'] at hkun
    have hnot : ∀ e ∈ oj.after, Region.binds .any e = true → e.on ≠ k := fun e he hb heq => by
      have h1 := hall e he hb
      rw [heq, hkf] at h1; cases h1
    obtain ⟨a1, a2, a3⟩ := apart_looks hk hoj (hfree j oj hoj e hjun hnot)
    have hfree' : ∀ i oi, ops[i]? = some oi → i ≠ k → (listed.setIfInBounds j true).getD i true = false → (∀ e ∈ oi.after, Region.binds .any e = true → e.on ≠ k) → ok.apart ops oi = true := fun i oi hi hik hun hno => by
      refine hfree i oi hi hik ?_ hno
      by_cases hji : j = i
      · subst hji; exact hjun
      · rw [getD_set_ne true hji] at hun; exact hun
    have hr' := ready_mono hr (Ne.symm e)
    obtain ⟨u, h1 | ⟨po, H', h1, h2, h3⟩⟩ := h.2 j (ready_mono hj e)
    · refine ⟨u, .inl ⟨h1.1.agree (Agree.put a1 E v).symm, ih hfree' (hD.set hj) hr' (hv.agree (Agree.put a2 E u)) ?_⟩⟩
      have h4 := AnyO.swap (Agree.put a2 E u) f h1.2
      rw [Array.setIfInBounds_comm _ _ e]
      refine AnyO.ext f (fun m => ?_) h4
      simp only [get_eput]
      by_cases c1 : dstOf ops k = some m
      · rw [if_neg (a3 m c1), if_pos c1, if_pos c1]
      · simp only [if_neg c1]
    · have hag := h2 ⟨k, E, v⟩ (List.mem_cons_self ..) (anc_ok hD hj hkf)
      have hE' : Agree (looks ops k) E (eput (pE po E) (dstOf ops j) u) := hag.2.2.trans (Agree.put a2 _ u)
      refine ⟨u, .inr ⟨po, H', h1.agree (Agree.put a1 E v).symm, fun e' he => h2 e' (List.mem_cons_of_mem _ he), ih hfree' (hD.set hj) hr' (hag.1.agree hE') ?_⟩⟩
      have h4 := AnyO.swap hE' f h3
      rw [Array.setIfInBounds_comm _ _ e]
      refine AnyO.ext f (fun m => ?_) h4
      simp only [get_eput, get_pE]
      by_cases c1 : dstOf ops k = some m
      · rw [if_neg (a3 m c1), if_pos c1, if_pos c1]; exact hag.2.1
      · simp only [if_neg c1]

/-- Every order is walked. -/
theorem AnyO.sound {Q : Exit → Act → World → Prop} : ∀ (f : Nat) {obs : List Pd} {listed : Array Bool} {E : Env} {H : List Ob} {a : Act} {w : World}, AnyO P kl n B ops K f obs listed E H → Rel (cx P kl n B) E H a w →
    (∀ E' H' a' w', K E' H' → Rel (cx P kl n B) E' H' a' w' → Q .normal a' w') → wpAny P .any ops Q f listed a w
  | 0, _, _, _, _, _, _, h, hR, hK => ⟨h.1, by obtain ⟨E2, h1, h2⟩ := h.2; exact hK _ _ _ _ h2 (hR.ext h1)⟩
  | f + 1, _, _, _, _, _, _, h, hR, hK => ⟨fun hr => by obtain ⟨E2, h1, h2⟩ := h.1 hr; exact hK _ _ _ _ h2 (hR.ext h1), fun i hi => by
    obtain ⟨v, h1 | ⟨po, H', h1, h2, h3⟩⟩ := h.2 i hi
    · exact h1.1 _ (Agree.refl _ _) _ _ _ _ hR fun a' w' hR' => AnyO.sound f h1.2 hR' hK
    · exact h1 _ (Agree.refl _ _) _ _ _ _ hR fun a' w' hR' => AnyO.sound f h3 hR' hK⟩
end
end Go.Vc
/- The walk of a region that draws its order. -/
namespace Go.Vc

/-- In which order the walk takes the operations; at an effect: which readers it looks at again. -/
abbrev Plan := List (Nat × Option (List Nat))
def planB (ops : Array Oper) : Plan → List Nat → Array Bool → Bool
  | [], _, listed => (Region.ready .any ops listed).isEmpty
  | (k, none) :: l, done, listed => (Region.ready .any ops listed).contains k && Region.free .any ops listed k && planB ops l (k :: done) (listed.setIfInBounds k true)
  | (k, some L) :: l, done, listed => (Region.ready .any ops listed == [k]) && done.all (fun j => anc ops k j || L.contains j) && planB ops l done (listed.setIfInBounds k true)

/-- A reader that the walk has passed, and when it may be read again. -/
structure En where
  k : Nat
  S : Env
  v : Va
  re : Option Nat → List Ob → Prop
def agLook (o : Nat) (S : Env) : List Operand → Prop
  | [] => True
  | .tmp t :: xs => (eget S t).prune (· != o) = eget S t ∧ agLook o S xs
  | _ :: xs => agLook o S xs
def agP (ops : Array Oper) (k : Nat) (S : Env) (v : Va) : Option Nat → Prop
  | none => True
  | some o => v.prune (· != o) = v ∧ agLook o S (looks ops k)
def againAll (L : List Nat) (po : Option Nat) (H' : List Ob) : List En → Prop
  | [] => True
  | e :: l => (bif L.contains e.k then e.re po H' else True) ∧ againAll L po H' l

section
variable (P : Program) (kl : List Bool) (n : Nat) (B : Bs) (ops : Array Oper)
def En.ok (e : En) : Prop := ∀ po H', e.re po H' → Again P kl n B ops ⟨e.k, e.S, e.v⟩ po H'
/-- From here on the walk goes through. -/
def Dr (l : Plan) (obs : List En) (E : Env) (H : List Ob) (K : Env → List Ob → Prop) : Prop :=
  B.G0.length = kl.length → (∀ e ∈ obs, e.ok P kl n B ops) → ∀ listed, DC ops listed → planB ops l (obs.map (·.k)) listed = true → AnyO P kl n B ops K l.length (obs.map fun e => ⟨e.k, e.S, e.v⟩) listed E H
end

section
variable {P : Program} {kl : List Bool} {n : Nat} {B : Bs} {ops : Array Oper} {K : Env → List Ob → Prop} {l : Plan} {obs : List En} {E : Env} {H : List Ob}

theorem Dr.nil (h : K E H) : Dr P kl n B ops [] obs E H K := fun _ _ listed _ hp => ⟨by simpa [planB] using hp, E, fun _ => rfl, h⟩
theorem ready_lt {k : Nat} {listed : Array Bool} (h : k ∈ Region.ready .any ops listed) : ∃ o, ops[k]? = some o := by
  obtain ⟨_, o, ho, _⟩ := mem_ready.1 h
  exact ⟨o, ho⟩
theorem Dr.read {k : Nat} {v : Va} {re : Option Nat → List Ob → Prop} (hr : B.G0.length = kl.length → Rdr P kl n B ops k E v H) (ho : B.G0.length = kl.length → En.ok P kl n B ops ⟨k, E, v, re⟩) (h : Dr P kl n B ops l (⟨k, E, v, re⟩ :: obs) (eput E (dstOf ops k) v) H K) :
    Dr P kl n B ops ((k, none) :: l) obs E H K := by
  intro hB hobs listed hD hp
  simp only [planB, Bool.and_eq_true] at hp
  obtain ⟨⟨h1, h2⟩, h3⟩ := hp
  have hk : k ∈ Region.ready .any ops listed := by simpa using h1
  obtain ⟨o, hko⟩ := ready_lt hk
  exact AnyO.first hko l.length (Region.free_spec hko h2) hD hk (hr hB) (h hB (fun e he => by
    rcases List.mem_cons.1 he with rfl | he
    · exact ho hB
    · exact hobs e he) _ (hD.set hk) h3)
theorem againAll_ok {L : List Nat} {po : Option Nat} {H' : List Ob} : ∀ {obs : List En}, againAll L po H' obs → ∀ e ∈ obs, L.contains e.k = true → e.re po H'
  | [], _, _, he, _ => by cases he
  | e0 :: obs, h, e, he, hc => by
    rcases List.mem_cons.1 he with rfl | he
    · have := h.1; rw [hc] at this; exact this
    · exact againAll_ok h.2 e he hc
theorem Dr.eff {k : Nat} {v : Va} {po : Option Nat} {H' : List Ob} {L : List Nat} (hr : B.G0.length = kl.length → Efr P kl n B ops k E v po H H') (ha : againAll L po H' obs) (h : Dr P kl n B ops l obs (eput (pE po E) (dstOf ops k) v) H' K) :
    Dr P kl n B ops ((k, some L) :: l) obs E H K := by
  intro hB hobs listed hD hp
  simp only [planB, Bool.and_eq_true, beq_iff_eq] at hp
  obtain ⟨⟨h1, h2⟩, h3⟩ := hp
  have hk : k ∈ Region.ready .any ops listed := by rw [h1]; simp
  refine ⟨fun e => (by rw [h1] at e; cases e), fun i hi => ?_⟩
  rw [h1] at hi
  obtain rfl : i = k := by simpa using hi
  refine ⟨v, .inr ⟨po, H', hr hB, fun e he hna => ?_, h hB hobs _ (hD.set hk) h3⟩⟩
  obtain ⟨e', he', rfl⟩ := List.mem_map.1 he
  rw [List.all_eq_true] at h2
  have h4 := h2 e'.k (List.mem_map.2 ⟨e', he', rfl⟩)
  simp only at hna
  rw [hna, Bool.false_or] at h4
  exact hobs e' he' po H' (againAll_ok ha e' he' h4)

/-- A region that draws its order, walked by a plan. -/
theorem Wp.regionD {id : Nat} {os : List Oper} {Q : Qt} (plan : Plan) (hm : P.follows .mixedOrders = true) (hl : plan.length = os.length) (hp : planB os.toArray plan [] (Array.replicate os.length false) = true)
    (h : ∀ K : Env → List Ob → Prop, (∀ E H, Q .normal E H → K E H) → Dr P kl n B os.toArray plan [] E H K) : Wp P kl n B (.region id os.toArray true) Q E H := by
  intro hB a w hR
  refine wp_region_any hm ?_
  have hD : DC os.toArray (Array.replicate os.length false) := fun i hi => by
    simp [Array.getD_eq_getD_getElem?, Array.getElem?_replicate] at hi
    split at hi <;> simp at hi
  have h1 := h (Q .normal) (fun _ _ h => h) hB (fun _ he => by cases he) _ hD hp
  rw [hl] at h1
  rw [show os.toArray.size = os.length by simp]
  exact AnyO.sound _ h1 (hR.drew _) fun E' H' a' w' h1 h2 => ⟨E', H', h1, h2⟩

/-! ### single operations -/
theorem guardB_congr {E' : Env} {k j : Nat} {o : Oper} {want : Bool} (hk : ops[k]? = some o) (hg : o.guard = some (j, want)) (h : Agree (looks ops k) E E') : guardB ops.toList E' j want = guardB ops.toList E j want := by
  unfold guardB
  rw [Array.getElem?_toList]
  cases hj : ops[j]? with
  | none => rfl
  | some oj =>
    simp only
    cases hd : oj.dst with
    | none => rfl
    | some d =>
      have : rnd E (.tmp d) = rnd E' (.tmp d) := h _ (by simp [looks, hk, hg, hj, hd])
      simp only [rnd] at this
      simp only [this]
theorem looks_op {k : Nat} {o : Oper} {E' : Env} (hk : ops[k]? = some o) (h : Agree (looks ops k) E E') : Agree o.op.operands.toList E E' := fun x hx => h x (by simp only [looks, hk, List.mem_append]; exact .inl hx)

theorem rdr_pure {k : Nat} {o : Oper} (hk : ops[k]? = some o) (hg : o.guard = none) (hd : dstOk n o.dst) (hok : (pureV P true E H o.op).ok) : Rdr P kl n B ops k E (pureV P true E H o.op).v H := by
  intro E' hE' a w Q K' hR hK
  rw [pureV_congr o.op (looks_op hk hE')] at hok hK
  have hdd : dstOf ops k = o.dst := by simp [dstOf, hk]
  rw [hdd] at hK
  unfold wpOp
  simp only [hk]
  rw [if_pos (by simp [Region.wanted, hg])]
  refine .inl ?_
  obtain ⟨Kk, G, hX, hS, hE, hdf, hn, hkp⟩ := hR
  obtain ⟨c, hr, hv⟩ := pure_ok (P := P) hS hE rfl o hok
  unfold Oper.wp
  rw [hr]
  have hRV : RelV (cx P kl n B) E' H c (pureV P true E' H o.op).v a w := ⟨Kk, G, hX, hS, hE, hdf, hn, hkp, hv⟩
  exact hK _ _ (hRV.put o.dst (dstOk_lt hd))
theorem rdr_guarded {k : Nat} {o : Oper} {j : Nat} {want g : Bool} (hk : ops[k]? = some o) (hg : o.guard = some (j, want)) (hb : guardB ops.toList E j want = some g) (hd : dstOk n o.dst) (hok : g = true → (pureV P g E H o.op).ok) :
    Rdr P kl n B ops k E (.cnd g (pureV P g E H o.op).v) H := by
  intro E' hE' a w Q K' hR hK
  have hc := pureV_congr (P := P) (g := g) (H := H) o.op (looks_op hk hE')
  rw [hc] at hok
  rw [← guardB_congr hk hg hE'] at hb
  have hdd : dstOf ops k = o.dst := by simp [dstOf, hk]
  rw [hdd, hc] at hK
  have hw := guardB_ok hR hg hb
  unfold wpOp
  simp only [hk]
  have hR' := hR
  obtain ⟨Kk, G, hX, hS, hE, hdf, hn, hkp⟩ := hR'
  cases g with
  | true =>
    rw [if_pos hw]
    refine .inl ?_
    obtain ⟨c, hr, hv⟩ := pure_ok (P := P) hS hE rfl o (hok rfl)
    unfold Oper.wp
    rw [hr]
    have hRV : RelV (cx P kl n B) E' H c (.cnd true (pureV P true E' H o.op).v) a w := ⟨Kk, G, hX, hS, hE, hdf, hn, hkp, by simp only [VR]; exact ⟨fun _ => hv, fun e => Bool.noConfusion e⟩⟩
    exact hK _ _ (hRV.put o.dst (dstOk_lt hd))
  | false =>
    rw [if_neg (by rw [hw]; simp)]
    have hRV : RelV (cx P kl n B) E' H undef (.cnd false (pureV P false E' H o.op).v) a w := ⟨Kk, G, hX, hS, hE, hdf, hn, hkp, by simp [VR]⟩
    exact hK _ _ (hRV.put o.dst (dstOk_lt hd))
theorem efr_ok {k : Nat} {o : Oper} (hk : ops[k]? = some o) (hg : o.guard = none) (hd : dstOk n o.dst) (hok : (effV P (kpf kl) E H o.op).ok) : Efr P kl n B ops k E (effV P (kpf kl) E H o.op).v (effP E o.op) H (effV P (kpf kl) E H o.op).H := by
  intro E' hE' a w Q K' hR hK
  obtain ⟨c1, c2, c3, c4⟩ := effV_congr (P := P) (H := H) (kp := kpf kl) o.op (looks_op hk hE')
  have hok' : (effV P (kpf kl) E' H o.op).ok := by rw [c3]; exact hok
  have hdd : dstOf ops k = o.dst := by simp [dstOf, hk]
  rw [hdd] at hK
  unfold wpOp
  simp only [hk]
  rw [if_pos (by simp [Region.wanted, hg])]
  refine .inl ?_
  obtain ⟨c, w', hr, hR'⟩ := eff_ok (cx P kl n B) E' H o hok' a w hR
  have fin : Rel (cx P kl n B) (eput (pE (effP E o.op) E') o.dst (effV P (kpf kl) E H o.op).v) (effV P (kpf kl) E H o.op).H (a.put o.dst c) w' := by
    have := hR'.put o.dst (dstOk_lt hd)
    simp only [c1, c2] at this
    exact this.ext fun m => by simp only [get_eput, get_pE]; rw [c4 hok m]
  unfold Oper.wp
  rcases hr with hr | ⟨hr, rfl⟩
  · rw [hr]; exact hK _ _ fin
  · rw [hr]; exact hK _ _ fin
end
end Go.Vc
/- The walk of a region that draws its order, reckoned; calls in it. -/
namespace Go.Vc

def wrapG : Option (Nat × Bool) → Bool → Va → Va
  | none, _, v => v
  | some _, g, v => .cnd g v
def lookL (ops : List Oper) (o : Oper) : List Operand := o.op.operands.toList ++ match o.guard with
  | some (j, _) => match ops[j]? with
    | some oj => match oj.dst with
      | some d => [.tmp d]
      | none => []
    | none => []
  | none => []
def agL (ops : List Oper) (o : Oper) (S : Env) (v : Va) : Option Nat → Prop
  | none => True
  | some p => v.prune (· != p) = v ∧ agLook p S (lookL ops o)
def rePure (P : Program) (ops : List Oper) (o : Oper) (g : Bool) (E : Env) (v : Va) (po : Option Nat) (H' : List Ob) : Prop :=
  (g = true → (pureV P g E H' o.op).ok) ∧ wrapG o.guard g (pureV P g E H' o.op).v = v ∧ agL ops o E v po
def reCall (ops : List Oper) (o : Oper) (E : Env) (v : Va) (av args : List Va) (po : Option Nat) (H' : List Ob) : Prop :=
  lendVs H' av = some args ∧ agL ops o E v po

structure Aw where
  obs : List En
  E : Env
  H : List Ob
  ok : Prop
def dRead (P : Program) (n : Nat) (ops : List Oper) (k : Nat) (o : Oper) (g : Bool) (aw : Aw) (r : Pv) : Aw :=
  ⟨⟨k, aw.E, wrapG o.guard g r.v, rePure P ops o g aw.E (wrapG o.guard g r.v)⟩ :: aw.obs, eput aw.E o.dst (wrapG o.guard g r.v), aw.H, aw.ok ∧ dstOk n o.dst ∧ (g = true → r.ok)⟩
def dEff (n : Nat) (o : Oper) (L : List Nat) (po : Option Nat) (aw : Aw) (r : Ev) : Aw :=
  ⟨aw.obs, eput (pE po aw.E) o.dst r.v, r.H, aw.ok ∧ dstOk n o.dst ∧ r.ok ∧ againAll L po r.H aw.obs⟩
inductive Rd where
  | done (aw : Aw)
  | stop (l : Plan) (aw : Aw)
def badD : Rd := .done ⟨[], [], [], False⟩
def runD (P : Program) (kl : List Bool) (n : Nat) (ops : List Oper) : Plan → Aw → Rd
  | [], aw => .done aw
  | (k, none) :: l, aw => match ops[k]? with
    | some o => if isStop P o = true then .stop ((k, none) :: l) aw else match o.guard with
      | none => runD P kl n ops l (dRead P n ops k o true aw (pureV P true aw.E aw.H o.op))
      | some (j, want) => match guardB ops aw.E j want with
        | some g => runD P kl n ops l (dRead P n ops k o g aw (pureV P g aw.E aw.H o.op))
        | none => badD
    | none => badD
  | (k, some L) :: l, aw => match ops[k]? with
    | some o => match o.guard with
      | none => runD P kl n ops l (dEff n o L (effP aw.E o.op) aw (effV P (kpf kl) aw.E aw.H o.op))
      | some _ => badD
    | none => badD
def RdEnd (P : Program) (kl : List Bool) (n : Nat) (B : Bs) (ops : Array Oper) (K : Env → List Ob → Prop) : Rd → Prop
  | .done aw => aw.ok ∧ K aw.E aw.H
  | .stop l aw => aw.ok ∧ Dr P kl n B ops l aw.obs aw.E aw.H K

section
variable {P : Program} {kl : List Bool} {n : Nat} {B : Bs} {ops : List Oper} {K : Env → List Ob → Prop} {l : Plan} {obs : List En} {E : Env} {H : List Ob}

theorem lookL_eq {k : Nat} {o : Oper} (hk : ops[k]? = some o) : looks ops.toArray k = lookL ops o := by
  unfold looks lookL
  simp only [List.getElem?_toArray, hk]
  cases o.guard with
  | none => rfl
  | some gw =>
    obtain ⟨j, want⟩ := gw
    simp only
    cases ops[j]? with
    | none => rfl
    | some oj =>
      simp only [Option.bind_some]
      first
        | done
        | (cases oj.dst <;> rfl)
theorem agLook_ok {p : Nat} {S : Env} : ∀ {xs : List Operand}, agLook p S xs → Agree xs S (pruneE (· != p) S)
  | [], _, x, hx => by cases hx
  | y :: ys, h, x, hx => by
    rcases List.mem_cons.1 hx with rfl | hx
    · cases x with
      | tmp t => simp only [rnd, get_pruneE]; exact h.1.symm
      | _ => rfl
    · have : agLook p S ys := by cases y <;> first | exact h.2 | exact h
      exact agLook_ok this x hx
theorem agL_ok {k : Nat} {o : Oper} (hk : ops[k]? = some o) {S : Env} {v : Va} {po : Option Nat} (h : agL ops o S v po) : pruneO po v = v ∧ Agree (looks ops.toArray k) S (pE po S) := by
  cases po with
  | none => exact ⟨rfl, Agree.refl _ _⟩
  | some p => exact ⟨h.1, by rw [lookL_eq hk]; exact agLook_ok h.2⟩
theorem wrapG_none {o : Oper} (hg : o.guard = none) (g : Bool) (v : Va) : wrapG o.guard g v = v := by rw [hg]; rfl
theorem wrapG_some {o : Oper} {x : Nat × Bool} (hg : o.guard = some x) (g : Bool) (v : Va) : wrapG o.guard g v = .cnd g v := by rw [hg]; rfl

theorem runD_prev {os : List Oper} : ∀ {l : Plan} {aw : Aw}, RdEnd P kl n B os.toArray K (runD P kl n ops l aw) → aw.ok
  | [], aw, h => h.1
  | (k, none) :: l, aw, h => by
    unfold runD at h
    split at h
    · split at h
      · exact h.1
      · split at h
        · exact (runD_prev h).1
        · split at h
          · exact (runD_prev h).1
          · exact h.1.elim
    · exact h.1.elim
  | (k, some L) :: l, aw, h => by
    unfold runD at h
    split at h
    · split at h
      · exact (runD_prev h).1
      · exact h.1.elim
    · exact h.1.elim
theorem getA {k : Nat} {o : Oper} (hk : ops[k]? = some o) : ops.toArray[k]? = some o := by rw [List.getElem?_toArray]; exact hk
theorem dst_eq {k : Nat} {o : Oper} (hk : ops[k]? = some o) : dstOf ops.toArray k = o.dst := by simp [dstOf, hk]
theorem Dr.run : ∀ {l : Plan} {aw : Aw}, RdEnd P kl n B ops.toArray K (runD P kl n ops l aw) → Dr P kl n B ops.toArray l aw.obs aw.E aw.H K
  | [], aw, h => Dr.nil h.2
  | (k, none) :: l, aw, h => by
    unfold runD at h
    split at h
    rotate_left
    · exact h.1.elim
    rename_i o hk
    split at h
    · exact h.2
    split at h
    · rename_i hg
      have hok := (runD_prev h).2
      have h' := Dr.run h
      simp only [dRead] at h'
      rw [← dst_eq hk] at h'
      refine Dr.read (fun _ => ?_) (fun _ => ?_) h'
      · rw [wrapG_none hg]; exact rdr_pure (getA hk) hg hok.1 (hok.2 rfl)
      · intro po H' hre
        obtain ⟨r1, r2, r3⟩ := hre
        refine ⟨?_, agL_ok hk r3⟩
        simp only
        rw [wrapG_none hg, wrapG_none hg] at r2
        rw [wrapG_none hg, ← r2]
        exact rdr_pure (getA hk) hg hok.1 (r1 rfl)
    · rename_i j want hg
      split at h
      rotate_left
      · exact h.1.elim
      rename_i g hb
      have hok := (runD_prev h).2
      have h' := Dr.run h
      simp only [dRead] at h'
      rw [← dst_eq hk] at h'
      refine Dr.read (fun _ => ?_) (fun _ => ?_) h'
      · rw [wrapG_some hg]; exact rdr_guarded (getA hk) hg hb hok.1 hok.2
      · intro po H' hre
        obtain ⟨r1, r2, r3⟩ := hre
        refine ⟨?_, agL_ok hk r3⟩
        simp only
        rw [wrapG_some hg, wrapG_some hg] at r2
        rw [wrapG_some hg, ← r2]
        exact rdr_guarded (getA hk) hg hb hok.1 r1
  | (k, some L) :: l, aw, h => by
    unfold runD at h
    split at h
    rotate_left
    · exact h.1.elim
    rename_i o hk
    split at h
    rotate_left
    · exact h.1.elim
    rename_i hg
    have hok := (runD_prev h).2
    have h' := Dr.run h
    simp only [dEff] at h'
    rw [← dst_eq hk] at h'
    exact Dr.eff (fun _ => efr_ok (getA hk) hg hok.1 hok.2.1) hok.2.2 h'
/-- A region that draws its order, as one step. -/
theorem Wp.seqD {id : Nat} {os : List Oper} {y : Code} {Q : Qt} (plan : Plan) (hm : P.follows .mixedOrders = true) (hl : plan.length = os.length) (hp : planB os.toArray plan [] (Array.replicate os.length false) = true)
    (h : ∀ K : Env → List Ob → Prop, (∀ E H, Wp P kl n B y Q E H → K E H) → RdEnd P kl n B os.toArray K (runD P kl n os plan ⟨[], E, H, True⟩)) : Wp P kl n B (.seq (.region id os.toArray true) y) Q E H :=
  Wp.seq fun _ hK => Wp.regionD plan hm hl hp fun K' hK' => Dr.run (h K' fun E' H' hy => hK' E' H' (hK E' H' hy))

/-! ### calls -/
theorem callL_wp {o : Oper} {c : Call} {fop : Operand} {f : FuncId} {caps args : List Va} {v : Va} (hs : Does P f args [] fun r X => r = v ∧ X = []) (ho : o.op = .call c) (hc : c.callee = .value fop)
    (hok : opOk true E fop ∧ allOk true E c.args.toList) (hf : opnd E fop = .fn f caps) (hp : lendVs H (opnds E c.args.toList ++ caps) = some args) (hflat : v.flat = true) {a : Act} {w : World} {Q : Exit → Act → World → Prop} {K' : Act → World → Prop} (hR : Rel (cx P kl n B) E H a w)
    (hK : ∀ c' w', RelV (cx P kl n B) E H c' v a w' → K' (a.put o.dst c') w') : o.wp P a w K' Q := by
  obtain ⟨Kk, G, hX, hS, hE, hdf, hn, hkp⟩ := hR
  have hvf := opnd_ok hE rfl fop hok.1
  rw [hf] at hvf
  simp only [VR] at hvf
  obtain ⟨cs, hcs, hcv⟩ := hvf
  have hargs := opnds_ok hE rfl c.args.toList hok.2
  have hall := lendVs_ok hS hp (hargs.append hcv)
  unfold Oper.wp
  rw [enter_run ho hc hcs hs.1]
  simp only [Oper.upon]
  refine (hs.2 (withG Kk G) [] w _ (St.nil (withG_lt hS)) hall).mono ?_
  rintro e w' ⟨c', r, X', K1, G1, rfl, ⟨rfl, rfl⟩, hX1, hS1, hv, _⟩
  have fr : ∀ b, b < w.heap.size → w'.heap[b]? = w.heap[b]? := fun b hb => hX1.frame b hb (fun o g0 h => by simp at h)
  have hX2 : Ext (kpf kl) B.K0 B.G0 B.w0 Kk G w' := by
    refine hX.trans { Ext.refl (kpf kl) Kk G w with
      os := hX1.os, tape := hX1.tape, output := hX1.output, size := hX1.size, frame := fun b hb _ => fr b hb }
  exact hK c' w' ⟨Kk, G, hX2, hS.after hX1, fun m => VR.keep (f := fun _ => true) ⟨fun _ h => h, fun b hb => fr b (hS.kb b hb)⟩ (Mg.refl _ G) _ _ (Va.all_true _) (hE m), hdf, hn, hkp, flat_ok hflat hv⟩
/-- A reader that is a call, unguarded or guarded. -/
theorem rdr_call {k : Nat} {o : Oper} {c : Call} {fop : Operand} {f : FuncId} {caps args : List Va} {g : Bool} {v : Va} (hs : g = true → Does P f args [] fun r X => r = v ∧ X = []) (hk : ops[k]? = some o) (ho : o.op = .call c) (hc : c.callee = .value fop)
    (hg : match o.guard with | none => g = true | some (j, want) => guardB ops E j want = some g) (hd : dstOk n o.dst) (hok : opOk g E fop ∧ allOk g E c.args.toList) (hf : opnd E fop = .fn f caps) (hp : lendVs H (opnds E c.args.toList ++ caps) = some args) (hflat : v.flat = true) :
    Rdr P kl n B ops.toArray k E (wrapG o.guard g v) H := by
  intro E' hE' a w Q K' hR hK
  have hop := looks_op (getA hk) hE'
  rw [ho] at hop
  have hfo : rnd E fop = rnd E' fop := hop fop (by simp [Op.operands, Call.operands, hc])
  have ha : Agree c.args.toList E E' := fun x hx => hop x (by simp only [Op.operands, Call.operands, Array.toList_append, List.mem_append]; exact .inr hx)
  rw [Agree.opOk hfo, Agree.allOk ha] at hok
  rw [Agree.opnd hfo] at hf
  rw [Agree.opnds ha] at hp
  rw [dst_eq hk] at hK
  unfold wpOp
  simp only [getA hk]
  cases hgd : o.guard with
  | none =>
    rw [hgd] at hg hK
    subst hg
    rw [if_pos (by simp [Region.wanted, hgd])]
    exact .inl (callL_wp (hs rfl) ho hc hok hf hp hflat hR fun c' w' hRV => hK _ _ (hRV.put o.dst (dstOk_lt hd)))
  | some gw =>
    obtain ⟨j, want⟩ := gw
    rw [hgd] at hg hK
    simp only at hg
    have hb : guardB ops.toArray.toList E j want = some g := by simpa using hg
    rw [← guardB_congr (getA hk) hgd hE'] at hb
    have hw := guardB_ok hR hgd hb
    cases g with
    | true =>
      rw [if_pos hw]
      exact .inl (callL_wp (hs rfl) ho hc hok hf hp hflat hR fun c' w' hRV => hK _ _ (RelV.put (v := .cnd true v) (by
        obtain ⟨Kk, G, h1, h2, h3, h4, h5, h6, h7⟩ := hRV
        exact ⟨Kk, G, h1, h2, h3, h4, h5, h6, by simp only [VR]; exact ⟨fun _ => h7, fun e => Bool.noConfusion e⟩⟩) o.dst (dstOk_lt hd)))
    | false =>
      rw [if_neg (by rw [hw]; simp)]
      obtain ⟨Kk, G, hX, hS, hE, hdf, hn, hkp⟩ := hR
      exact hK _ _ (RelV.put (C := cx P kl n B) (v := .cnd false v) ⟨Kk, G, hX, hS, hE, hdf, hn, hkp, by simp [VR]⟩ o.dst (dstOk_lt hd))

def callArgsX (E : Env) (o : Oper) : Option (FuncId × List Va) := match o.op with
  | .call c => match c.callee with
    | .value fop => match opnd E fop with
      | .fn f caps => some (f, opnds E c.args.toList ++ caps)
      | _ => none
    | _ => none
  | _ => none
def guardX (ops : List Oper) (E : Env) (o : Oper) : Option Bool := match o.guard with
  | none => some true
  | some (j, want) => guardB ops E j want
/-- A call in a region that draws its order. -/
theorem Dr.callF {k : Nat} {f : FuncId} {av args : List Va} {g : Bool} {o : Oper} {v : Va} (hs : g = true → Does P f args [] fun r X => r = v ∧ X = []) (hk : Is ops[k]? (some o)) (ha : Is (callArgsX E o) (some (f, av))) (hg : Is (guardX ops E o) (some g)) (hp : Is (lendVs H av) (some args)) (hok : callOk n g E o) (hf : Is v.flat true)
    (cont : RdEnd P kl n B ops.toArray K (runD P kl n ops l ⟨⟨k, E, wrapG o.guard g v, reCall ops o E (wrapG o.guard g v) av args⟩ :: obs, eput E o.dst (wrapG o.guard g v), H, True⟩)) : Dr P kl n B ops.toArray ((k, none) :: l) obs E H K := by
  unfold Is at *
  unfold callArgsX at ha
  split at ha
  rotate_left
  · cases ha
  rename_i c h1
  split at ha
  rotate_left
  · cases ha
  rename_i fop h3
  split at ha
  rotate_left
  · cases ha
  rename_i f' caps h4
  cases ha
  obtain ⟨hd, hk1, hk2⟩ := callOk_spec hok h1 h3
  have hg' : match o.guard with | none => g = true | some (j, want) => guardB ops E j want = some g := by
    unfold guardX at hg
    revert hg
    cases o.guard with
    | none => exact fun hg => (Option.some.inj hg).symm
    | some gw => exact fun hg => hg
  have h' := Dr.run cont
  simp only at h'
  rw [← dst_eq hk] at h'
  refine Dr.read (fun _ => rdr_call hs hk h1 h3 hg' hd ⟨hk1, hk2⟩ h4 hp hf) (fun _ => ?_) h'
  intro po H' hre
  exact ⟨rdr_call hs hk h1 h3 hg' hd ⟨hk1, hk2⟩ h4 hre.1 hf, agL_ok hk hre.2⟩
end

attribute [go_sem] runD RdEnd dRead dEff wrapG badD againAll rePure reCall agL agLook lookL pE effP callArgsX guardX planB Op.operands
end Go.Vc
/- A body's end, reckoned. -/
namespace Go.Vc

def retG (m : Nat) (Post : Va → List Ob → Prop) (r : Va) (X : List Ob) : Prop :=
  leV r r ∧ leH X X ∧ X.length = m ∧ r.all (fun o => decide (o < m)) = true ∧ allH (fun o => decide (o < m)) X = true ∧ Post r X
def retF (m : Nat) (kl : List Bool) (Post : Va → List Ob → Prop) (H : List Ob) (pv : Pv) : Prop :=
  pv.ok ∧ kl.length ≤ m ∧ m ≤ H.length ∧ retG m Post (outV m H pv.v) (outH m H (H.take m))
theorem retF_ok {P : Program} {rs : List ResultVar} {m : Nat} {kl : List Bool} {Post : Va → List Ob → Prop} {E : Env} {H : List Ob} (h : retF m kl Post H (resV P E H rs)) : RetOk P rs m kl Post E H := by
  obtain ⟨h1, h2, h3, h4, h5, h6, h7, h8, h9⟩ := h
  exact ⟨h1, h2, h3, h7, h8, _, _, h4, h5, h6, h7, h8, h9⟩
section
variable {P : Program} {kl : List Bool} {n : Nat} {B : Bs} {rs : List ResultVar} {m : Nat} {Post : Va → List Ob → Prop} {E : Env} {H : List Ob}
theorem Wp.retF (h : Vc.retF m kl Post H (resV P E H rs)) : Wp P kl n B .ret (retQ P rs m kl Post) E H := Wp.ret (retF_ok h)
theorem retQ_ret (h : Vc.retF m kl Post H (resV P E H rs)) : retQ P rs m kl Post .ret E H := retF_ok h
theorem retQ_normal (h : Vc.retF m kl Post H (resV P E H rs)) : retQ P rs m kl Post .normal E H := retF_ok h
end
section
variable {P : Program} {kl : List Bool} {n : Nat} {B : Bs} {K : Env → List Ob → Prop} {E : Env} {H : List Ob} {ops : Array Oper}
/-- A call, guarded or not, that hands back what names no memory. -/
theorem Rg.callX {o : Oper} {l : List Oper} {f : FuncId} {av args : List Va} {g : Bool} {v : Va} (hs : g = true → Does P f args [] fun r X => r = v ∧ X = []) (ha : Is (callArgsX E o) (some (f, av))) (hb : Is (guardX ops.toList E o) (some g)) (hp : Is (lendVs H av) (some args)) (hok : callOk n g E o) (hf : Is v.flat true)
    (cont : (g = true → v.ok) → RgEnd P kl n B ops K (run1 P kl n ops.toList l ⟨eput E o.dst (wrapG o.guard g v), H, True⟩)) : Rg P kl n B ops (o :: l) E H K := by
  unfold Is callArgsX at ha
  unfold Is guardX at hb
  split at ha
  rotate_left
  · cases ha
  rename_i c h1
  split at ha
  rotate_left
  · cases ha
  rename_i fop h3
  split at ha
  rotate_left
  · cases ha
  rename_i f' caps h4
  cases ha
  obtain ⟨hd, hk⟩ := callOk_spec hok h1 h3
  cases hg : o.guard with
  | none =>
    rw [hg] at hb
    obtain rfl : true = g := Option.some.inj hb
    have hs := hs rfl
    refine Rg.callL hs h1 hg h3 hd hk h4 hp fun r X' ⟨hr, _⟩ hv => ⟨hr ▸ hf, ?_⟩
    have c1 := cont fun _ => hr ▸ hv
    rw [wrapG_none hg] at c1
    exact hr ▸ Rg.run c1
  | some gw =>
    obtain ⟨j, want⟩ := gw
    rw [hg] at hb
    refine Rg.callG v hs h1 hg hb h3 hd hk h4 hp hf fun hv => ?_
    have c1 := cont hv
    rw [wrapG_some hg] at c1
    exact Rg.run c1
end

section
variable {P : Program} {kl : List Bool} {n : Nat} {B : Bs} {ops : List Oper} {K : Env → List Ob → Prop} {l : Plan} {obs : List En} {E : Env} {H : List Ob}
/-- An unguarded call in a region that draws its order. -/
theorem Dr.callU {k : Nat} {f : FuncId} {av args : List Va} {o : Oper} {v : Va} (hs : Does P f args [] fun r X => r = v ∧ X = []) (hk : Is ops[k]? (some o)) (ha : Is (callArgsX E o) (some (f, av))) (hg : Is (guardX ops E o) (some true)) (hp : Is (lendVs H av) (some args)) (hok : callOk n true E o) (hf : Is v.flat true)
    (cont : RdEnd P kl n B ops.toArray K (runD P kl n ops l ⟨⟨k, E, wrapG o.guard true v, reCall ops o E (wrapG o.guard true v) av args⟩ :: obs, eput E o.dst (wrapG o.guard true v), H, True⟩)) : Dr P kl n B ops.toArray ((k, none) :: l) obs E H K :=
  Dr.callF (fun _ => hs) hk ha hg hp hok hf cont
end

theorem wrap64 {n : Int} (h1 : -9223372036854775808 ≤ n) (h2 : n ≤ 9223372036854775807) : IntKind.i64.wrap n = n := by
  simp only [IntKind.wrap, IntKind.bits, IntKind.signed]
  simp
  omega
theorem wrap8 {n : Int} (h1 : 0 ≤ n) (h2 : n ≤ 255) : IntKind.u8.wrap n = n := by
  simp only [IntKind.wrap, IntKind.bits, IntKind.signed]
  simp
  omega
attribute [go_sem] retG retF Nat.le_refl Fits lo hi List.replicate_succ List.replicate_zero List.length_set List.contains_nil List.contains_cons Bool.or_false Bool.false_or Lim
attribute [-go_sem] RetOk
end Go.Vc
/- From a law's row to what its function does: how data are read as pure data, and what the row asks behind the call. -/
namespace Go.Vc

/-- How a cell of pure data is made. -/
inductive Sh where
  | b
  | i (k : IntKind)
  | s
  | l (e : List Sh)
def shFs (P : Program) (r : TypeId → Option (List Sh)) : Nat → List Field → Option (List Sh)
  | _, [] => some []
  | off, f :: fs => match r f.type with
    | some x => if f.offset = off ∧ P.cellsOf f.type = x.length then match shFs P r (off + x.length) fs with
      | some y => some (x ++ y)
      | none => none
      else none
    | none => none
def shP (P : Program) : Nat → TypeId → Option (List Sh)
  | 0, _ => none
  | m + 1, t => match P.underlying t with
    | some .bool => some [.b]
    | some (.int k) => some [.i k]
    | some .string => some [.s]
    | some (.slice e) => match shP P m e with
      | some x => if P.cellsOf e = x.length ∧ 0 < x.length then some [.l x] else none
      | none => none
    | some (.struct fs) => match shFs P (shP P m) 0 fs.toList with
      | some x => if P.cellsOf t = x.length then some x else none
      | none => none
    | _ => none
mutual
def hasT : Dt → Sh → Prop
  | .b _, .b => True
  | .i k _, .i k' => k = k'
  | .s _, .s => True
  | .l rows, .l e => hasRs rows e
  | _, _ => False
def hasR : List Dt → List Sh → Prop
  | [], [] => True
  | d :: ds, e :: es => hasT d e ∧ hasR ds es
  | _, _ => False
def hasRs : List (List Dt) → List Sh → Prop
  | [], _ => True
  | r :: rs, e => hasR r e ∧ hasRs rs e
end
mutual
/-- How much a datum holds. -/
def bulkT : Dt → Nat
  | .b _ => 1
  | .i _ _ => 1
  | .s x => x.length + 1
  | .l rows => bulkRs rows + 1
def bulkR : List Dt → Nat
  | [] => 0
  | d :: ds => bulkT d + bulkR ds
def bulkRs : List (List Dt) → Nat
  | [] => 0
  | r :: rs => bulkR r + bulkRs rs
end
mutual
def bulkD {H : Type} : DataW H → Nat
  | .lit (.string bytes) => bytes.length + 1
  | .lit _ => 1
  | .nil => 1
  | .ptr d => bulkD d + 1
  | .slice elems spare => bulkDs elems + bulkDs spare + 1
  | .agg parts => bulkDs parts + 1
  | .iface _ d => bulkD d + 1
  | .map entries => bulkEs entries + 1
  | .held _ => 1
def bulkDs {H : Type} : List (DataW H) → Nat
  | [] => 0
  | d :: r => bulkD d + bulkDs r
def bulkEs {H : Type} : List (Lit × DataW H) → Nat
  | [] => 0
  | x :: r => bulkE x + bulkEs r
def bulkE {H : Type} : Lit × DataW H → Nat
  | (.string bytes, d) => bytes.length + bulkD d + 1
  | (_, d) => bulkD d + 1
end

theorem hasR_append : ∀ {a b : List Dt} {x y : List Sh}, hasR a x → hasR b y → hasR (a ++ b) (x ++ y)
  | [], _, [], _, _, h => h
  | d :: ds, _, e :: es, _, h, h' => by simp only [List.cons_append, hasR] at *; exact ⟨h.1, hasR_append h.2 h'⟩
  | [], _, _ :: _, _, h, _ => by simp [hasR] at h
  | _ :: _, _, [], _, h, _ => by simp [hasR] at h
theorem hasR_length : ∀ {a : List Dt} {x : List Sh}, hasR a x → a.length = x.length
  | [], [], _ => rfl
  | d :: ds, e :: es, h => by simp only [hasR] at h; simp [hasR_length h.2]
  | [], _ :: _, h => by simp [hasR] at h
  | _ :: _, [], h => by simp [hasR] at h
theorem bulkR_append : ∀ a b : List Dt, bulkR (a ++ b) = bulkR a + bulkR b
  | [], b => by simp [bulkR]
  | d :: a, b => by simp only [List.cons_append, bulkR, bulkR_append a b]; omega
theorem bulkDs_length {H : Type} : ∀ l : List (DataW H), l.length ≤ bulkDs l
  | [] => by simp [bulkDs]
  | d :: l => by
    have h1 := bulkDs_length l
    have h2 : 1 ≤ bulkD d := by
      cases d with
      | lit l => cases l <;> simp [bulkD]
      | _ => simp [bulkD]
    simp only [List.length_cons, bulkDs]
    omega

theorem wf_fits {k : IntKind} {n : Int} (h : (Lit.int k n).wf = true) : Fits k n := by
  simp only [Lit.wf, Bool.and_eq_true, decide_eq_true_eq] at h
  cases k <;> simpa [Fits, lo, hi, IntKind.min, IntKind.max, IntKind.signed, IntKind.bits] using h

section
variable {H : Type} {enc : TypeId × Value → H} {P : Program} {w : World}
abbrev allOf (w : World) : Nat → Prop := fun b => b < w.heap.size
/-- What is read in one place. -/
def Rd1 (w : World) (cs : List Value) (d : DataW H) (shs : List Sh) : Prop := ∃ row, DRs (allOf w) w.heap cs row ∧ hasR row shs ∧ bulkR row ≤ bulkD d

theorem cells_of {a : Addr} {n : Nat} {cs : List Value} (hn : 0 < n) (h : w.cells? 0 a n = some cs) : cs.length = n ∧ a.block < w.heap.size ∧ a.spot = none ∧ ∃ cur T fr, w.heap[a.block]? = some (.cells cur T fr) ∧ ∀ j v, cs[j]? = some v → cur[a.off + j]? = some v := by
  obtain ⟨_, h2, h3⟩ := World.cells?_some h
  have h0 := h3 0 hn
  have hlt : 0 < cs.length := by omega
  rw [List.getElem?_eq_getElem hlt] at h0
  unfold World.cell? at h0
  have ha : a.add 0 = a := rfl
  rw [ha] at h0
  split at h0
  rotate_left
  · cases h0
  rename_i cur T fr hb
  split at h0
  · cases h0
  rename_i hs
  have hs : a.spot = none := by simpa using hs
  refine ⟨h2, (Array.getElem?_eq_some_iff.1 hb).1, hs, cur, T, fr, hb, fun j v hj => ?_⟩
  have hjl := (List.getElem?_eq_some_iff.1 hj).1
  have hj' := h3 j (by omega)
  obtain ⟨b, o, s⟩ := a
  simp only at hs hb ⊢
  subst hs
  rw [addr_add] at hj'
  unfold World.cell? at hj'
  simp only [hb] at hj'
  rw [← hj, ← hj']
  rfl

theorem fields_ok {r : TypeId → Option (List Sh)} {n : Nat} {cs : List Value}
    (ih : ∀ t cs x shs, DataW.trod enc P w 0 (fun _ => true) true n t cs = some x → r t = some shs → bulkD x.1 ≤ Lim → Rd1 w cs x.1 shs) :
    ∀ (fs : List Field) (off : Nat) (shs : List Sh) (xs : List (DataW H × List MemPlace)), shFs P r off fs = some shs → xs.length = fs.length →
      (∀ (i : Nat) (f : Field), fs[i]? = some f → DataW.trod enc P w 0 (fun _ => true) true n f.type ((cs.drop f.offset).take (P.cellsOf f.type)) = xs[i]?) → bulkDs (xs.map (·.1)) ≤ Lim →
      ∃ row, DRs (allOf w) w.heap ((cs.drop off).take shs.length) row ∧ hasR row shs ∧ bulkR row ≤ bulkDs (xs.map (·.1))
  | [], off, shs, xs, h, hl, _, _ => by
    simp only [shFs] at h
    cases h
    exact ⟨[], by simp [DRs], by simp [hasR], by simp [bulkR]⟩
  | f :: fs, off, shs, [], _, hl, _, _ => by simp at hl
  | f :: fs, off, shs, y :: xs, h, hl, hx, hb => by
    simp only [shFs] at h
    split at h
    rotate_left
    · cases h
    rename_i x hr
    split at h
    rotate_left
    · cases h
    rename_i hof
    split at h
    rotate_left
    · cases h
    rename_i z hz
    cases h
    simp only [List.map_cons, bulkDs] at hb ⊢
    have h0 := hx 0 f rfl
    simp only [List.getElem?_cons_zero] at h0
    obtain ⟨row, h1, h2, h3⟩ := ih _ _ _ _ h0 hr (by omega)
    obtain ⟨row', h1', h2', h3'⟩ := fields_ok ih fs (off + x.length) z xs hz (by simpa using hl) (fun i g hg => by simpa using hx (i + 1) g (by simpa using hg)) (by omega)
    rw [hof.1, hof.2] at h1
    refine ⟨row ++ row', ?_, hasR_append h2 h2', by rw [bulkR_append]; omega⟩
    rw [List.length_append, List.take_add, List.drop_drop]
    exact h1.append h1'

theorem elems_ok {n c : Nat} {e : TypeId} {shs : List Sh} {b off : Nat} {cur : Array Value} {T : TypeId} {fr : Nat × Nat} (hb : w.heap[b]? = some (.cells cur T fr)) (hc : 0 < c) (hsh : shs.length = c)
    (ih : ∀ cs x, DataW.trod enc P w 0 (fun _ => true) true n e cs = some x → bulkD x.1 ≤ Lim → Rd1 w cs x.1 shs) :
    ∀ (els : List (DataW H × List MemPlace)) (i0 : Nat), (∀ i, i < els.length → (w.cells? 0 ((⟨b, off, none⟩ : Addr).add ((i0 + i) * c)) c).bind (DataW.trod enc P w 0 (fun _ => true) true n e) = els[i]?) → bulkDs (els.map (·.1)) ≤ Lim →
      ∃ vs rows, rows.length = els.length ∧ DRss (allOf w) w.heap c vs rows ∧ (∀ j v, vs[j]? = some v → cur[off + i0 * c + j]? = some v) ∧ hasRs rows shs ∧ bulkRs rows ≤ bulkDs (els.map (·.1))
  | [], _, _, _ => ⟨[], [], rfl, by simp [DRss], by simp, by simp [hasRs], by simp [bulkRs]⟩
  | y :: els, i0, hx, hbk => by
    simp only [List.map_cons, bulkDs] at hbk ⊢
    have h0 := hx 0 (by simp)
    simp only [Nat.add_zero, List.getElem?_cons_zero, Option.bind_eq_some_iff] at h0
    obtain ⟨cs, hcs, hy⟩ := h0
    rw [addr_add] at hcs
    obtain ⟨hl, _, _, cur', T', fr', hb', hcell⟩ := cells_of hc hcs
    simp only at hb' hcell
    rw [hb] at hb'
    cases hb'
    obtain ⟨row, h1, h2, h3⟩ := ih _ _ hy (by omega)
    obtain ⟨vs, rows, r1, r2, r3, r4, r5⟩ := elems_ok hb hc hsh ih els (i0 + 1) (fun i hi => by
      have := hx (i + 1) (by simpa using hi)
      rw [show i0 + (i + 1) = i0 + 1 + i by omega] at this
      simpa using this) (by omega)
    refine ⟨cs ++ vs, row :: rows, by simp [r1], ?_, fun j v hj => ?_, by simp only [hasRs]; exact ⟨h2, r4⟩, by simp only [bulkRs]; omega⟩
    · simp only [DRss]
      exact ⟨cs, vs, rfl, by rw [hasR_length h2, hsh], h1, r2⟩
    · rw [List.getElem?_append] at hj
      split at hj
      · exact hcell j v hj
      · have := r3 _ v hj
        rw [Nat.add_mul] at this
        rw [show off + i0 * c + j = off + (i0 * c + 1 * c) + (j - cs.length) by omega]
        exact this

theorem read_ok : ∀ (m n : Nat) (t : TypeId) (cs : List Value) (x : DataW H × List MemPlace) (shs : List Sh), DataW.trod enc P w 0 (fun _ => true) true n t cs = some x → shP P m t = some shs → bulkD x.1 ≤ Lim → Rd1 w cs x.1 shs
  | 0, _, _, _, _, _, _, h, _ => by simp [shP] at h
  | m + 1, n, t, cs, x, shs, hx, h, hb => by
    simp only [shP] at h
    split at h
    · rename_i hu
      cases h
      obtain ⟨n', rfl⟩ : ∃ n', n = n' + 1 := by cases n with | zero => simp [DataW.trod] at hx | succ n' => exact ⟨n', rfl⟩
      unfold DataW.trod at hx
      rw [hu] at hx
      split at hx <;> simp_all
      rename_i b
      exact ⟨[.b b], by simp [DRs, DR], by simp [hasR, hasT], by rw [← hx]; simp [bulkR, bulkT, bulkD]⟩
    · rename_i k hu
      cases h
      obtain ⟨n', rfl, h1, h2⟩ := DataW.trod_int hu hx
      subst h1
      exact ⟨[.i k n'], by simp only [DRs, DR]; exact ⟨_, _, rfl, ⟨rfl, wf_fits h2⟩, rfl⟩, by simp [hasR, hasT], by simp [bulkR, bulkT, bulkD]⟩
    · rename_i hu
      cases h
      obtain ⟨s, rfl, h1, h2⟩ := DataW.trod_string hu hx
      subst h1
      simp only [bulkD] at hb
      exact ⟨[.s s.data.toList], by simp only [DRs, DR]; exact ⟨_, _, rfl, ⟨rfl, by omega⟩, rfl⟩, by simp [hasR, hasT], by simp [bulkR, bulkT, bulkD]⟩
    · rename_i e hu
      split at h
      rotate_left
      · cases h
      rename_i y hy
      split at h
      rotate_left
      · cases h
      rename_i hc
      cases h
      rcases DataW.trod_slice hu hx with ⟨rfl, rfl⟩ | ⟨a, len, cap, elems, rest, n', rfl, rfl, rfl, _, hl, _, hel, hget, hsp, _⟩
      · exact ⟨[.l []], by simp only [DRs, DR]; exact ⟨_, _, rfl, .inl ⟨⟨none, rfl⟩, trivial⟩, rfl⟩, by simp [hasR, hasT, hasRs], by simp [bulkR, bulkT, bulkRs, bulkD]⟩
      · obtain ⟨hrl, hrest⟩ := hsp rfl
        simp only [bulkD] at hb
        rcases Nat.eq_zero_or_pos cap with rfl | hcp
        · have : len = 0 := by omega
          subst this
          exact ⟨[.l []], by simp only [DRs, DR]; exact ⟨_, _, rfl, .inl ⟨⟨some a, rfl⟩, trivial⟩, rfl⟩, by simp [hasR, hasT, hasRs], by simp [bulkR, bulkT, bulkRs, bulkD]⟩
        · have hc0 : 0 < P.cellsOf e := by rw [hc.1]; exact hc.2
          have first : ∃ cs0, w.cells? 0 a (P.cellsOf e) = some cs0 := by
            rcases Nat.eq_zero_or_pos len with h0 | h0
            · have h1 := hrest 0 (by omega)
              have h2 : rest[0]? ≠ none := by simp; intro e; subst e; simp at hrl; omega
              cases h3 : rest[0]? with
              | none => exact absurd h3 h2
              | some r0 =>
                rw [h3, h0, Option.bind_eq_some_iff] at h1
                obtain ⟨cs0, h4, _⟩ := h1
                exact ⟨cs0, by simpa [Addr.add] using h4⟩
            · have h1 := hget 0 h0
              have h2 : elems[0]? ≠ none := by simp; intro e; subst e; simp at hel; omega
              cases h3 : elems[0]? with
              | none => exact absurd h3 h2
              | some r0 =>
                rw [h3, Option.bind_eq_some_iff] at h1
                obtain ⟨cs0, h4, _⟩ := h1
                exact ⟨cs0, by simpa [Addr.add] using h4⟩
          obtain ⟨cs0, hcs0⟩ := first
          obtain ⟨_, hblk, hspot, cur, T, fr, hcur, _⟩ := cells_of hc0 hcs0
          obtain ⟨b, off, s⟩ := a
          simp only at hblk hspot hcur
          subst hspot
          obtain ⟨vs, rows, r1, r2, r3, r4, r5⟩ := elems_ok (off := off) hcur hc0 hc.1.symm (fun cs x h1 h2 => read_ok m n' e cs x y h1 hy h2) elems 0 (fun i hi => by
            rw [Nat.zero_add]; exact hget i (by omega)) (by omega)
          have hlen := bulkDs_length (elems.map (·.1))
          rw [List.length_map] at hlen
          refine ⟨[.l rows], ?_, by simp only [hasR, hasT]; exact ⟨r4, trivial⟩, by simp only [bulkR, bulkT, bulkD]; omega⟩
          simp only [DRs]
          refine ⟨_, _, rfl, ?_, rfl⟩
          simp only [DR]
          refine .inr ⟨b, off, cap, cur, T, fr, P.cellsOf e, vs, by rw [r1, hel], hblk, hcur, by omega, by omega, fun j v hj => by simpa using r3 j v hj, r2⟩
    · rename_i fs hu
      split at h
      rotate_left
      · cases h
      rename_i y hy
      split at h
      rotate_left
      · cases h
      rename_i hc
      cases h
      obtain ⟨xs, n', rfl, rfl, hcl, hxl, hf⟩ := DataW.trod_struct hu hx
      simp only [bulkD] at hb
      obtain ⟨row, h1, h2, h3⟩ := fields_ok (n := n') (cs := cs) (fun t cs x shs a b c => read_ok m n' t cs x shs a b c) fs.toList 0 _ xs hy (by simpa using hxl) (fun i f hi => hf i f (by simpa using hi)) (by omega)
      rw [List.drop_zero, ← hc, ← hcl, List.take_length] at h1
      exact ⟨row, h1, h2, by simp only [bulkD]; omega⟩
    · cases h

/-- What an argument is, out of the cells that it reads. -/
def argV (ag : Bool) (row : List Dt) : Va := bif ag then .agg (row.map .p) else match row with
  | [d] => .p d
  | _ => .top
def argVs : List Bool → List (List Dt) → List Va
  | ag :: as, r :: rs => argV ag r :: argVs as rs
  | _, _ => []
def hasAll : List (List Dt) → List (List Sh) → Prop
  | [], [] => True
  | r :: rs, s :: ss => hasR r s ∧ hasAll rs ss
  | _, _ => False
theorem arg_ok {G : List Gh} {m : Nat} {t : TypeId} {v : Value} {base : Nat} {d : DataW H} {ps : List MemPlace} {shs : List Sh} (hval : Value.okWide P w .any base t v) (h : DataW.Trod enc P w 0 (fun _ => true) true t v d ps) (hs : shP P m t = some shs) (hb : bulkD d ≤ Lim) :
    ∃ row, VR (allOf w) w.heap G v (argV (aggP P t) row) ∧ hasR row shs ∧ bulkR row ≤ bulkD d := by
  obtain ⟨n, hn⟩ := h
  obtain ⟨row, h1, h2, h3⟩ := read_ok m n t _ _ _ hn hs hb
  refine ⟨row, ?_, h2, h3⟩
  cases m with
  | zero => simp [shP] at hs
  | succ m =>
    simp only [shP] at hs
    unfold Value.okWide at hval
    have scalar : ∀ d, P.underlying t = some d → aggP P t = false → v.cells.toList = [v] → row.length = 1 → VR (allOf w) w.heap G v (argV (aggP P t) row) := by
      intro _ _ ha hc hl
      rw [ha]
      match row, hl with
      | [d], _ =>
        rw [hc] at h1
        simp only [DRs] at h1
        obtain ⟨_, _, h, h4, _⟩ := h1
        cases h
        simpa only [argV, cond_false, VR] using h4
    split at hs
    · rename_i hu
      cases hs
      refine scalar _ hu (by simp [aggP, hu]) ?_ (by rw [hasR_length h2]; rfl)
      rw [hu] at hval
      simp only [Cell.okWide, hu, Cell.ok] at hval
      cases v <;> first | rfl | exact hval.elim
    · rename_i k hu
      cases hs
      refine scalar _ hu (by simp [aggP, hu]) ?_ (by rw [hasR_length h2]; rfl)
      rw [hu] at hval
      simp only [Cell.okWide, hu, Cell.ok] at hval
      cases v <;> first | rfl | exact hval.elim
    · rename_i hu
      cases hs
      refine scalar _ hu (by simp [aggP, hu]) ?_ (by rw [hasR_length h2]; rfl)
      rw [hu] at hval
      simp only [Cell.okWide, hu, Cell.ok] at hval
      cases v <;> first | rfl | exact hval.elim
    · rename_i e hu
      split at hs
      rotate_left
      · cases hs
      split at hs
      rotate_left
      · cases hs
      cases hs
      refine scalar _ hu (by simp [aggP, hu]) ?_ (by rw [hasR_length h2]; rfl)
      rw [hu] at hval
      simp only [Cell.okWide, hu, Cell.ok] at hval
      cases v <;> first | rfl | exact hval.elim
    · rename_i fs hu
      rw [hu] at hval
      obtain ⟨cs, rfl, _⟩ := hval
      have ha : aggP P t = true := by simp [aggP, hu]
      rw [ha]
      simp only [argV, cond_true, VR]
      exact ⟨cs.toList, by simp, h1.vrs⟩
    · cases hs
theorem args_ok {G : List Gh} {m base : Nat} : ∀ {ts : List TypeId} {vs : List Value} {ds : List (DataW H)} {ps : List MemPlace} {shss : List (List Sh)}, (∀ (j : Nat) t v, ts[j]? = some t → vs[j]? = some v → Value.okWide P w .any base t v) →
    DataW.TrodAll enc P w 0 (fun _ => true) true ts vs ds ps → ts.map (shP P m) = shss.map some → bulkDs ds ≤ Lim → ∃ rows, VRs (allOf w) w.heap G vs (argVs (ts.map (aggP P)) rows) ∧ hasAll rows shss ∧ bulkRs rows ≤ bulkDs ds
  | [], vs, ds, ps, shss, _, h, hs, _ => by
    match vs, ds, h with
    | [], [], _ =>
      have : shss = [] := by cases shss <;> simp_all
      subst this
      exact ⟨[], by simp [argVs, VRs], by simp [hasAll], by simp [bulkRs]⟩
  | t :: ts, vs, ds, ps, shss, hv, h, hs, hb => by
    match vs, ds, h with
    | v :: vs, d :: ds, h =>
      obtain ⟨p, q, h0, h1, _⟩ := h
      match shss, hs with
      | [], hs => simp at hs
      | s :: ss, hs =>
        simp only [List.map_cons, List.cons.injEq] at hs
        simp only [bulkDs] at hb
        obtain ⟨row, r1, r2, r3⟩ := arg_ok (G := G) (hv 0 t v rfl rfl) h0 hs.1 (by omega)
        obtain ⟨rows, q1, q2, q3⟩ := args_ok (G := G) (fun j t v a b => hv (j + 1) t v (by simpa using a) (by simpa using b)) h1 hs.2 (by omega)
        refine ⟨row :: rows, ?_, by simp only [hasAll]; exact ⟨r2, q2⟩, by simp only [bulkRs, bulkDs]; omega⟩
        simp only [List.map_cons, argVs, VRs]
        exact ⟨v, vs, rfl, r1, q1⟩

theorem post_of_below {f : Func} {s : ChangeSpec} {apart fresh handsOn again : Bool} {W W' : World} {args : Array Value} {v : Value} {ds gs : List (DataW H)} {before pa pv : List MemPlace}
    (hW : DataW.Whole enc P f.params.toList s.vars apart W args.toList ds gs before)
    (hres : ∀ (b : Nat) (sp : Nat → Bool) (hd : Bool), DataW.TrodAll enc P W' b sp hd f.resultTypes.toList (v.resultList f.resultTypes.size) (s.fn H (ds ++ gs)).results [])
    (hargs : ∀ sp : Nat → Bool, (∀ p ∈ before, sp p.block = true) → DataW.TrodAll enc P W' 0 sp true f.params.toList args.toList (s.fn H (ds ++ gs)).args pa)
    (hvars : ∀ sp : Nat → Bool, (∀ p ∈ before, sp p.block = true) → DataW.TrodVars enc P W' sp s.vars (s.fn H (ds ++ gs)).vars pv)
    (hps : before = pa ++ pv) (hb : RowKit.Below W.heap.size W W')
    (hok : ∀ (j : Nat) (t : TypeId) (r : Value), f.resultTypes[j]? = some t → (v.resultList f.resultTypes.size)[j]? = some r → Value.okWide P W' .any 0 t r) :
    s.post enc P f apart fresh handsOn again W args v W' := by
  have hlt : ∀ p ∈ before, p.block < W.heap.size := fun p hp => hW.lt p hp
  have hold : ∀ p ∈ before, (fun b => decide (b < W.heap.size)) p.block = true := fun p hp => by simpa using hlt p hp
  refine ⟨ds, gs, before, [], pa, pv, hW, hres _ _ _, hargs _ hold, hvars _ hold, World.keptBut_mono (fun p hp => ⟨hp, ?_⟩) (hb.frame (· ∈ before)), fun _ => ?_⟩
  · rw [hps, List.mem_append] at hp
    exact Or.inr hp
  · obtain ⟨_, _, _, _, _, hz, hn⟩ := hW
    refine ⟨hok, _, _, ([] ++ pa) ++ pv, ⟨[] ++ pa, pv, ChangeShapes.trodAll_append (hargs _ (fun _ _ => rfl)) (hres _ _ _), hvars _ (fun _ _ => rfl), rfl, ?_, ?_⟩, ?_⟩
    · intro b off hp
      have hin : MemPlace.cell b off ∈ before := by rw [hps]; simpa using hp
      rw [hb.frozen (hlt _ hin)]
      exact hz b off hin
    · intro ha
      have := hn ha
      rw [hps] at this
      simpa using this
    · intro p hp _
      rw [hps]
      simpa using hp

theorem all_stays (hl : laidOutB P = true) {W W' : World} {sp : Nat → Bool} : ∀ {ts : List TypeId} {vs : List Value} {ds : List (DataW H)} {ps : List MemPlace}, ts.all (fun t => P.readableRec t && decide (t < P.types.size)) = true →
    DataW.TrodAll enc P W 0 (fun _ => true) true ts vs ds ps → (∀ p ∈ ps, W.sameAt W' p) → (∀ p ∈ ps, sp p.block = true) → DataW.TrodAll enc P W' 0 sp true ts vs ds ps
  | [], vs, ds, ps, _, h, _, _ => by
    match vs, ds, h with
    | [], [], h => exact h
  | t :: ts, vs, ds, ps, ha, h, hs, hp => by
    match vs, ds, h with
    | v :: vs, d :: ds, h =>
      obtain ⟨p, q, h0, h1, rfl⟩ := h
      simp only [List.all_cons, Bool.and_eq_true, decide_eq_true_eq] at ha
      exact ⟨p, q, WideElems.Trod_stays hl ha.1.1 ha.1.2 h0 (fun x hx => hs x (by simp [hx])) (fun x hx => hp x (by simp [hx])),
        all_stays hl ha.2 h1 (fun x hx => hs x (by simp [hx])) (fun x hx => hp x (by simp [hx])), rfl⟩

theorem trodAll_length {sp : Nat → Bool} {hd : Bool} {base : Nat} : ∀ {ts : List TypeId} {vs : List Value} {ds : List (DataW H)} {ps : List MemPlace}, DataW.TrodAll enc P w base sp hd ts vs ds ps → ds.length = ts.length
  | [], [], [], _, _ => rfl
  | t :: ts, v :: vs, d :: ds, ps, ⟨_, _, _, h, _⟩ => by simp [trodAll_length h]
  | [], _ :: _, _, _, h | [], [], _ :: _, _, h | _ :: _, [], _, _, h | _ :: _, _ :: _, [], _, h => h.elim
theorem bulkDs_append : ∀ a b : List (DataW H), bulkDs (a ++ b) = bulkDs a + bulkDs b
  | [], b => by simp [bulkDs]
  | d :: a, b => by simp only [List.cons_append, bulkDs, bulkDs_append a b]; omega
theorem hasRs_map {α : Type} {f : α → List Dt} {e : List Sh} (h : ∀ r, hasR r e → ∃ a, r = f a) : ∀ {rows : List (List Dt)}, hasRs rows e → ∃ l : List α, rows = l.map f
  | [], _ => ⟨[], rfl⟩
  | r :: rs, hr => by
    simp only [hasRs] at hr
    obtain ⟨a, rfl⟩ := h r hr.1
    obtain ⟨l, rfl⟩ := hasRs_map h hr.2
    exact ⟨a :: l, rfl⟩

/-- THE ROW OF A LAW out of what its function does: for whatever it is called with, it returns true, and nothing that was there has changed. -/
theorem law_calls {f : FuncId} {fn : Func} {s : ChangeSpec} (hv : s.vars = []) {tb : TypeId} (hres : fn.resultTypes = #[tb]) (htb : P.underlying tb = some .bool)
    (hl : laidOutB P = true) (hts : fn.params.toList.all (fun t => P.readableRec t && decide (t < P.types.size)) = true) {m : Nat} {shss : List (List Sh)} (hsh : fn.params.toList.map (shP P m) = shss.map some)
    {W : World} {base : Nat} {args : Array Value} {ds gs : List (DataW H)} {before : List MemPlace}
    (hspec : ∀ ds : List (DataW H), ds.length = fn.params.toList.length → s.fn H ds = { results := [.lit (.bool true)], args := ds })
    (hdoes : ∀ rows : List (List Dt), hasAll rows shss → bulkRs rows ≤ bulkDs ds → Does P f (argVs (fn.params.toList.map (aggP P)) rows) [] fun r X => r = .p (.b true) ∧ X = [])
    (hval : ∀ (j : Nat) t v, fn.params[j]? = some t → args[j]? = some v → Value.okWide P W .any base t v)
    (hW : DataW.Whole enc P fn.params.toList s.vars false W args.toList ds gs before) (hk : bulkDs ds ≤ Lim) :
    Calls P f args W fun e W' => ∃ v, e = .returned v ∧ s.post enc P fn false true false false W args v W' := by
  have hW' := hW
  obtain ⟨p, q, hA, hV, rfl, hfz, _⟩ := hW
  rw [hv] at hV
  have hgs : gs = [] ∧ q = [] := by
    match gs, hV with
    | [], h => exact ⟨rfl, h⟩
  obtain ⟨rfl, rfl⟩ := hgs
  obtain ⟨rows, h1, h2, h3⟩ := args_ok (G := []) (m := m) (shss := shss) (fun j t v a b => hval j t v (by simpa using a) (by simpa using b)) hA hsh hk
  have hS : St (allOf W) [] [] W := ⟨rfl, fun _ h => h, by simp, by simp, by simp⟩
  have hc := (hdoes rows h2 h3).2 _ _ _ _ hS h1
  rw [show args.toList.toArray = args by simp] at hc
  refine hc.mono ?_
  rintro e W' ⟨c, r, X', K', G', rfl, ⟨rfl, rfl⟩, hX, hS', hvr, _⟩
  simp only [VR, DR] at hvr
  subst hvr
  refine ⟨_, rfl, ?_⟩
  have hb : RowKit.Below W.heap.size W W' := ⟨hX.os, hX.tape, hX.output, hX.size, fun b hb => hX.frame b hb (fun o g0 h => by simp at h)⟩
  have hlt : ∀ x ∈ p, x.block < W.heap.size := fun x hx => hW'.lt x (by simpa using hx)
  have hsp : s.fn H (ds ++ []) = { results := [.lit (.bool true)], args := ds } := by rw [List.append_nil]; exact hspec ds (trodAll_length hA)
  refine post_of_below (pa := p) (pv := []) hW' (fun b sp hd => ?_) (fun sp hh => ?_) (fun sp hh => ?_) rfl hb ?_
  · rw [hsp, hres]
    exact ⟨[], [], ⟨1, by simp [DataW.trod, Value.cells, htb]⟩, rfl, rfl⟩
  · rw [hsp]
    exact all_stays hl hts hA (fun x hx => hb.same (hlt x hx)) (fun x hx => hh x (by simpa using hx))
  · rw [hsp, hv]
    rfl
  · intro j t r ht hr
    rw [hres] at ht hr
    match j with
    | 0 =>
      simp [Value.resultList] at ht hr
      subst ht; subst hr
      simp [Value.okWide, htb, Cell.okWide, Cell.ok]
    | j + 1 => simp at ht
end
end Go.Vc
