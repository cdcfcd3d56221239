/- The engine's third part: a region of open order, whatever it holds: reading operations are taken first, the others one by one. -/
import Derived.Test.YtbajgbkkbabmlaaGreatDoorVm
set_option linter.unusedVariables false
set_option linter.unusedSimpArgs false
namespace Go.Vc

/-- Operation j waits for all the operations of a list. -/
def exB (ops : Array Oper) (qs : List Nat) (j : Nat) : Bool :=
  match ops[j]? with
  | some o => qs.all fun q => o.after.any fun e => Region.binds .any e && e.on == q
  | none => false

/-- Whatever order is picked from here on; the class C is kept by all operations but those that wait for all of the list qs. -/
def wpAnyL (P : Program) (ops : Array Oper) (Q : Exit → Act → World → Prop) (C : World → Prop) (qs : List Nat) : Nat → Array Bool → Act → World → Prop
  | 0, listed, a, w => Region.ready .any ops listed = [] ∧ Q .normal a w
  | fuel + 1, listed, a, w =>
    (Region.ready .any ops listed = [] → Q .normal a w) ∧
    ∀ i ∈ Region.ready .any ops listed, wpOp P ops Q i (fun a' w' => (exB ops qs i = false → C w') ∧ wpAnyL P ops Q C qs fuel (listed.setIfInBounds i true) a' w') a w

section
variable {P : Program} {ops : Array Oper} {Q : Exit → Act → World → Prop} {C : World → Prop} {qs : List Nat}
theorem wpAny_of_L : ∀ (fuel : Nat) (listed : Array Bool) (a : Act) (w : World), wpAnyL P ops Q C qs fuel listed a w → wpAny P .any ops Q fuel listed a w
  | 0, _, _, _, h => h
  | fuel + 1, _, _, _, h => ⟨h.1, fun i hi => wpOp_mono (fun a' w' h' => wpAny_of_L fuel _ a' w' h'.2) (h.2 i hi)⟩

theorem exB_no {i j : Nat} {o : Oper} (hj : ops[j]? = some o) (hq : i ∈ qs) (hno : ∀ e ∈ o.after, Region.binds .any e = true → e.on ≠ i) : exB ops qs j = false := by
  unfold exB
  rw [hj]
  simp only [List.all_eq_false]
  refine ⟨i, hq, ?_⟩
  simp only [Array.any_eq_true', Bool.and_eq_true, beq_iff_eq, not_exists]
  rintro e ⟨he, hb, hc⟩
  exact hno e he hb hc

theorem wpAnyL_first {i : Nat} {oi : Oper} {v : Value} (hi : ops[i]? = some oi) (hq : i ∈ qs) (hsel : ∀ (j : Nat) (o : Oper) cs b, ops[j]? = some o → o.op ≠ .select cs b)
    (hQ : ∀ c a w, Q (.panic c) (a.put oi.dst v) w → Q (.panic c) a w) :
    ∀ (fuel : Nat) (listed : Array Bool) (a : Act) (w : World),
      (∀ j oj, ops[j]? = some oj → j ≠ i → listed.getD j true = false → (∀ e ∈ oj.after, Region.binds .any e = true → e.on ≠ i) → oi.apart ops oj = true) →
      i ∈ Region.ready .any ops listed → YieldsIf P ops C oi v a → C w →
      wpAnyL P ops Q C qs fuel (listed.setIfInBounds i true) (a.put oi.dst v) w → wpAnyL P ops Q C qs (fuel + 1) listed a w := by
  intro fuel
  induction fuel with
  | zero =>
    intro listed a w _ hr hy hS H
    refine ⟨fun h => (by rw [h] at hr; cases hr), fun j hj => ?_⟩
    by_cases hji : j = i
    · subst hji; exact hy.wpOp hi hS ⟨fun _ => hS, H⟩
    · have := ready_mono hj hji
      rw [H.1] at this
      cases this
  | succ fuel ih =>
    intro listed a w hfree hr hy hS H
    refine ⟨fun h => (by rw [h] at hr; cases hr), fun j hj => ?_⟩
    by_cases hji : j = i
    · subst hji; exact hy.wpOp hi hS ⟨fun _ => hS, H⟩
    · have h1 := H.2 j (ready_mono hj hji)
      obtain ⟨hjun, oj, hoj, hall⟩ := mem_ready.1 hj
      have hnot : ∀ e ∈ oj.after, Region.binds .any e = true → e.on ≠ i := fun e he hb heq => by
        have h1 := hall e he hb
        have h0 := (mem_ready.1 hr).1
        rw [heq] at h1
        rcases Nat.lt_or_ge i listed.size with h' | h'
        · simp [h'] at h0 h1; rw [h0] at h1; cases h1
        · simp [Array.getElem?_eq_none h'] at h1
      have hex := exB_no (qs := qs) hoj hq hnot
      have h2 := wpOp_putIf hoj (hfree j oj hoj hji hjun hnot) (fun cs b => hsel i oi cs b hi) (fun cs b => hsel j oj cs b hoj) hQ hy h1
      have hfree' : ∀ k ok, ops[k]? = some ok → k ≠ i → (listed.setIfInBounds j true).getD k true = false →
          (∀ e ∈ ok.after, Region.binds .any e = true → e.on ≠ i) → oi.apart ops ok = true := fun k ok hk hki hun hno => by
        refine hfree k ok hk hki ?_ hno
        by_cases hjk : j = k
        · subst hjk; exact hjun
        · rw [getD_set_ne true hjk] at hun; exact hun
      refine wpOp_mono (fun a' w' h3 => ⟨fun _ => h3.2.1 hex, ih (listed.setIfInBounds j true) a' w' hfree' (ready_mono hr (Ne.symm hji)) h3.1 (h3.2.1 hex) ?_⟩) h2
      rw [Array.setIfInBounds_comm _ _ hji]
      exact h3.2.2
end

/-! ### On slots and heaps -/
/-- Inside a region of open order: so many operations at most are left; those of L are done. -/
def RunA (P : Program) (f : FuncId) (n : Nat) (ops : Array Oper) (C : HP) (qs : List Nat) (fuel : Nat) (L : Array Bool) (k : List Item) (s : Env) (h : Heap) (w0 : Base) (R : Value → Heap → Prop) : Prop :=
  ∀ (a : Act) (w : World), Fits n s a → w.heap = h → Same0 w0 w →
    wpAnyL P ops (fun e a' w' => e = .normal ∧ ∃ s' h', Fits n s' a' ∧ w'.heap = h' ∧ Same0 w0 w' ∧ Run P f n k s' h' w0 R) (fun w' => C w'.heap ∧ Same0 w0 w') qs fuel L a w

/-- The region that stands first, and what is behind it. -/
def openR : List Item → Option (Array Oper × List Item)
  | .code (.region _ ops true) :: k => some (ops, k)
  | _ => none

/-- May operation i come up? -/
def rdy (ops : Array Oper) (L : Array Bool) (i : Nat) : Bool :=
  L.getD i true == false && match ops[i]? with
    | some o => o.after.all fun e => !Region.binds .any e || L.getD e.on false
    | none => false
theorem rdy_ok {ops : Array Oper} {L : Array Bool} {i : Nat} (h : rdy ops L i = true) : i ∈ Region.ready .any ops L := by
  unfold rdy at h
  simp only [Bool.and_eq_true, beq_iff_eq] at h
  rw [mem_ready]
  refine ⟨h.1, ?_⟩
  have h2 := h.2
  split at h2
  · rename_i o ho
    refine ⟨o, ho, fun e he hb => ?_⟩
    have := Array.all_eq_true'.1 h2 e he
    simpa [hb] using this
  · cases h2

/-- Reading operations, in the order of a list. -/
def advA (P : Program) (n : Nat) (ops : Array Oper) : List Nat → Array Bool → Env → List Orc → Option (Array Bool × Env × List HP)
  | [], L, s, _ => some (L, s, [])
  | i :: is, L, s, orc =>
    match ops[i]? with
    | none => none
    | some o => match rdy ops L i && Region.free .any ops L i with
      | false => none
      | true =>
        match guardE n s ops o orc with
        | some (true, s1, l1, orc1) =>
          match qop P (evD n s1) o orc1 with
          | some (v, l2, orc2) => force v fun v => match advA P n ops is (L.setIfInBounds i true) (putO s1 o.dst v) orc2 with
            | some (L3, s3, l3) => some (L3, s3, l1 ++ (l2 ++ l3))
            | none => none
          | none => none
        | some (false, s1, l1, orc1) => match advA P n ops is (L.setIfInBounds i true) (putO s1 o.dst undef) orc1 with
          | some (L3, s3, l3) => some (L3, s3, l1 ++ l3)
          | none => none
        | none => none

section
variable {P : Program} {f : FuncId} {n : Nat} {k k1 : List Item} {s s' : Env} {h : Heap} {w0 : Base} {R R1 : Value → Heap → Prop} {ops : Array Oper} {C : HP} {qs : List Nat} {fuel : Nat} {L L' : Array Bool}

theorem RunA.env {s' : Env} (he : ∀ t, t < n → s t = s' t) (hr : RunA P f n ops C qs fuel L k s' h w0 R) : RunA P f n ops C qs fuel L k s h w0 R := fun a w ha hw h0 =>
  hr a w ⟨ha.defers, ha.size, fun t ht => by rw [ha.at_ t ht, he t ht]⟩ hw h0

/-- One reading operation is taken first. -/
theorem RunA.take {i : Nat} {o : Oper} {v : Value} (ho : ops[i]? = some o) (hs : Region.noSelect ops = true) (hq : i ∈ qs) (hf : Region.free .any ops L i = true) (hrd : rdy ops L i = true) (hC : C h)
    (hy : (Region.wanted o (yieldedE n s ops) = true ∧ ∀ w : World, C w.heap → (execOp (evD n s) o).run P w = .ok (.value v) w) ∨ (Region.wanted o (yieldedE n s ops) = false ∧ v = undef))
    (hr : RunA P f n ops C qs fuel (L.setIfInBounds i true) k (putO s o.dst v) h w0 R) : RunA P f n ops C qs (fuel + 1) L k s h w0 R := fun a w ha hw h0 => by
  refine wpAnyL_first ho hq (Region.noSelect_spec hs) (fun c a w hc => by cases hc.1) fuel L a w (Region.free_spec ho hf) (rdy_ok hrd) ?_ ⟨by rw [hw]; exact hC, h0⟩ (hr _ w (ha.put o.dst v) hw h0)
  rcases hy with ⟨h1, h2⟩ | ⟨h1, rfl⟩
  · exact .inl ⟨by rw [yielded_eq ha]; exact h1, fun w hw => by rw [eval_eq ha]; exact h2 w hw.1⟩
  · exact .inr ⟨by rw [yielded_eq ha]; exact h1, rfl⟩

theorem advA_ok (hs : Region.noSelect ops = true) (hC : C h) : ∀ (is : List Nat) (L : Array Bool) (s : Env) (orc : List Orc) (fuel : Nat) (l : List HP), (∀ i ∈ is, i ∈ qs) → advA P n ops is L s orc = some (L', s', l) → (∀ H, C H → AllO H l) →
    RunA P f n ops C qs fuel L' k s' h w0 R → RunA P f n ops C qs (fuel + is.length) L k s h w0 R
  | [], L, s, orc, fuel, l, _, hq, ho, hr => by
    simp only [advA, Option.some.injEq, Prod.mk.injEq] at hq
    obtain ⟨rfl, rfl, _⟩ := hq
    exact hr
  | i :: is, L, s, orc, fuel, l, hqs, hq, ho, hr => by
    have ih := fun L s orc fuel l => advA_ok hs hC is L s orc fuel l (fun j hj => hqs j (by simp [hj]))
    unfold advA at hq
    rw [show fuel + (i :: is).length = (fuel + is.length) + 1 from by simp; omega]
    split at hq
    · cases hq
    rename_i o hoi
    split at hq
    · cases hq
    rename_i hrf
    simp only [Bool.and_eq_true] at hrf
    split at hq
    · rename_i s1 l1 orc1 hg
      split at hq
      · rename_i v l2 orc2 hv
        rw [force_eq] at hq
        split at hq
        rotate_left
        · cases hq
        rename_i L3 s3 l3 hr3
        simp only [Option.some.injEq, Prod.mk.injEq] at hq
        obtain ⟨rfl, rfl, rfl⟩ := hq
        obtain ⟨rfl, hgt⟩ := guardE_ok hg (AllO.append (ho h hC)).1
        refine RunA.take hoi hs (hqs i (by simp)) hrf.2 hrf.1 hC (.inl ⟨hgt, fun w hw => qop_ok hv rfl (AllO.append (AllO.append (ho _ hw)).2).1⟩) (ih _ _ _ _ _ hr3 (fun H hH => (AllO.append (AllO.append (ho H hH)).2).2) hr)
      · cases hq
    · rename_i s1 l1 orc1 hg
      split at hq
      rotate_left
      · cases hq
      rename_i L3 s3 l3 hr3
      simp only [Option.some.injEq, Prod.mk.injEq] at hq
      obtain ⟨rfl, rfl, rfl⟩ := hq
      obtain ⟨rfl, hgt⟩ := guardE_ok hg (AllO.append (ho h hC)).1
      exact RunA.take hoi hs (hqs i (by simp)) hrf.2 hrf.1 hC (.inr ⟨hgt, rfl⟩) (ih _ _ _ _ _ hr3 (fun H hH => (AllO.append (ho H hH)).2) hr)
    · cases hq

/-- The beginning: the reading operations (of the list qs) that can be taken at once are taken. -/
theorem Run.any (ops : Array Oper) (k1 : List Item) (C : HP) (qs is : List Nat) (orc : List Orc) (L1 : Array Bool) (l1 : List (Nat × Value)) (Q : HP) (fuel : Nat)
    (ho : openR k = some (ops, k1)) (hB : (P.follows .mixedOrders && Region.noSelect ops && is.all qs.contains && decide (fuel + is.length = ops.size)) = true) (hC : C h)
    (he : (match advA P n ops is (Array.replicate ops.size false) s orc with | some (L2, s2, l2) => some (L2, (l1.map Prod.fst).map s2, fun H => conjO H l2) | none => none) = some (L1, l1.map Prod.snd, Q))
    (hq : ∀ H, C H → Q H) (hr : ∀ s', RunA P f n ops C qs fuel L1 k1 (kn l1 s') h w0 R) : Run P f n k s h w0 R := by
  unfold openR at ho
  split at ho
  · rename_i id ops' k'
    simp only [Option.some.injEq, Prod.mk.injEq] at ho
    obtain ⟨rfl, rfl⟩ := ho
    simp only [Bool.and_eq_true, List.all_eq_true, List.contains_iff_mem, decide_eq_true_eq] at hB
    obtain ⟨⟨⟨hm, hs⟩, hqs⟩, hfu⟩ := hB
    split at he
    rotate_left
    · cases he
    rename_i L2 s2 l2 hd
    simp only [Option.some.injEq, Prod.mk.injEq] at he
    obtain ⟨rfl, h2, h3⟩ := he
    refine Run.of_wp fun a w ha hw h0 => wp_region_any hm (wpAny_of_L (C := fun w' => C w'.heap ∧ Same0 w0 w') (qs := qs) _ _ _ _ ?_)
    have := hr s2
    rw [kn_self _ _ h2] at this
    have := advA_ok hs hC is _ s orc fuel l2 (fun i hi => by simpa using hqs i hi) hd (fun H hH => conjO_all (by have := hq H hH; rw [← h3] at this; exact this)) this
    rw [hfu] at this
    exact this a { w with drawn := w.drawn + 1 } ⟨ha.defers, ha.size, ha.at_⟩ hw h0.drew
  · cases ho

/-- On: further reading operations are taken. -/
theorem RunA.adv (is : List Nat) (orc : List Orc) (L1 : Array Bool) (l1 : List (Nat × Value)) (Q : HP) (fuel' : Nat)
    (hB : (Region.noSelect ops && is.all qs.contains && decide (fuel' + is.length = fuel)) = true) (hC : C h)
    (he : (match advA P n ops is L s orc with | some (L2, s2, l2) => some (L2, (l1.map Prod.fst).map s2, fun H => conjO H l2) | none => none) = some (L1, l1.map Prod.snd, Q))
    (hq : ∀ H, C H → Q H) (hr : ∀ s', RunA P f n ops C qs fuel' L1 k (kn l1 s') h w0 R) : RunA P f n ops C qs fuel L k s h w0 R := by
  simp only [Bool.and_eq_true, List.all_eq_true, List.contains_iff_mem, decide_eq_true_eq] at hB
  obtain ⟨⟨hs, hqs⟩, rfl⟩ := hB
  split at he
  rotate_left
  · cases he
  rename_i L2 s2 l2 hd
  simp only [Option.some.injEq, Prod.mk.injEq] at he
  obtain ⟨rfl, h2, h3⟩ := he
  have := hr s2
  rw [kn_self _ _ h2] at this
  exact advA_ok hs hC is _ s orc fuel' l2 (fun i hi => by simpa using hqs i hi) hd (fun H hH => conjO_all (by have := hq H hH; rw [← h3] at this; exact this)) this

/-- The end of the region. -/
theorem RunA.done (l1 : List (Nat × Value)) (hL : (Region.ready .any ops L).isEmpty = true) (he : (l1.map Prod.fst).map s = l1.map Prod.snd) (hr : ∀ s', Run P f n k (kn l1 s') h w0 R) : RunA P f n ops C qs fuel L k s h w0 R := fun a w ha hw h0 => by
  have hr := hr s
  rw [kn_self _ _ he] at hr
  have hL : Region.ready .any ops L = [] := by simpa using hL
  cases fuel with
  | zero => exact ⟨hL, rfl, s, h, ha, hw, h0, hr⟩
  | succ m => exact ⟨fun _ => ⟨rfl, s, h, ha, hw, h0, hr⟩, by rw [hL]; simp⟩

/-- The one operation that may come up now; whether it waits for all reading ones; what is done behind it. -/
def nextA (n : Nat) (s : Env) (ops : Array Oper) (qs : List Nat) (L : Array Bool) : Option (Oper × Bool × Array Bool) :=
  match Region.ready .any ops L with
  | [i] => match ops[i]? with
    | some o => if Region.wanted o (yieldedE n s ops) = true then some (o, exB ops qs i, L.setIfInBounds i true) else none
    | none => none
  | _ => none

theorem RunA.op {o : Oper} {ex : Bool} {L1 : Array Bool} (hn : nextA n s ops qs L = some (o, ex, L1))
    (hh : OpK P n s h w0 o (fun s' h' => (ex = false → C h') ∧ RunA P f n ops C qs fuel L1 k s' h' w0 R)) : RunA P f n ops C qs (fuel + 1) L k s h w0 R := fun a w ha hw h0 => by
  unfold nextA at hn
  split at hn
  · rename_i i hr
    split at hn
    · rename_i o' ho
      split at hn
      · rename_i hwa
        simp only [Option.some.injEq, Prod.mk.injEq] at hn
        obtain ⟨rfl, rfl, rfl⟩ := hn
        refine ⟨fun h => (by rw [hr] at h; cases h), fun j hj => ?_⟩
        rw [hr] at hj
        simp only [List.mem_singleton] at hj
        subst hj
        unfold wpOp
        simp only [ho, yielded_eq ha, hwa, if_true]
        refine .inl ?_
        have := hh a w ha hw h0
        unfold Oper.wp at this ⊢
        generalize (execOp a.eval o').run P w = r at this ⊢
        have fin : ∀ a' w', (∃ s' h', Fits n s' a' ∧ w'.heap = h' ∧ Same0 w0 w' ∧ (exB ops qs j = false → C h') ∧ RunA P f n ops C qs fuel (L.setIfInBounds j true) k s' h' w0 R) →
            (exB ops qs j = false → C w'.heap ∧ Same0 w0 w') ∧ wpAnyL P ops (fun e a' w' => e = .normal ∧ ∃ s' h', Fits n s' a' ∧ w'.heap = h' ∧ Same0 w0 w' ∧ Run P f n k s' h' w0 R) (fun w' => C w'.heap ∧ Same0 w0 w') qs fuel (L.setIfInBounds j true) a' w' := by
          rintro a' w' ⟨s', h', h1, rfl, h3, h4, h5⟩
          exact ⟨fun e => ⟨h4 e, h3⟩, h5 a' w' h1 rfl h3⟩
        cases r with
        | ok u w' =>
          cases u <;> simp only [Oper.upon] at this ⊢
          case value u => exact fin _ _ this
          case skip => exact fin _ _ this
          case defer d => exact fin _ _ this
          case enter g args =>
            refine Calls.mono this fun e w'' he => ?_
            cases e <;> simp only at he ⊢ <;> first | exact fin _ _ he | exact he.elim | (obtain ⟨_, _, hf⟩ := he; exact hf.elim)
          case row row args => exact Rows.mono this fun u w'' he => fin _ _ he
        | halt x w' =>
          cases x <;> simp only [Oper.upon] at this ⊢
          all_goals exact this.elim
      · cases hn
    · cases hn
  · cases hn

/-- A reading operation that comes up alone, at the heap at hand. -/
theorem RunA.solo (fuel : Nat) (orc : List Orc) (v : Value) (dst : Option Nat) (ex : Bool) (L1 : Array Bool) (Q : Prop)
    (he : ((nextA n s ops qs L).bind fun x => (qop P (evD n s) x.1 orc).map fun r => (r.1, conjO h r.2.1, x.1.dst, x.2.1, x.2.2)) = some (v, Q, dst, ex, L1)) (hq : Q) (hC : ex = false → C h)
    (hr : RunA P f n ops C qs fuel L1 k (putO s dst v) h w0 R) : RunA P f n ops C qs (fuel + 1) L k s h w0 R := by
  simp only [Option.bind_eq_some_iff, Option.map_eq_some_iff, Prod.mk.injEq] at he
  obtain ⟨⟨o, ex', L2⟩, hn, ⟨v', l, r⟩, hc, rfl, rfl, rfl, rfl, rfl⟩ := he
  refine RunA.op hn fun a w ha hwh h0 => ?_
  have := qop_ok hc hwh (conjO_all hq)
  rw [← eval_eq ha] at this
  simp only [Oper.wp, this, Oper.upon_value]
  exact ⟨_, _, ha.put o.dst v', hwh, h0, hC, hr⟩
theorem RunA.call (fuel : Nat) (g : FuncId) (args : Array Value) (dst : Option Nat) (ex : Bool) (L1 : Array Bool)
    (he : ((nextA n s ops qs L).bind fun x => (callOf P (evD n s) x.1).map fun c => (c.1, c.2, x.1.dst, x.2.1, x.2.2)) = some (g, args, dst, ex, L1)) (hf : CtB w0.2 P g args h R1)
    (hr : ∀ v h', R1 v h' → (ex = false → C h') ∧ RunA P f n ops C qs fuel L1 k (putO s dst v) h' w0 R) : RunA P f n ops C qs (fuel + 1) L k s h w0 R := by
  simp only [Option.bind_eq_some_iff, Option.map_eq_some_iff, Prod.mk.injEq] at he
  obtain ⟨⟨o, ex', L2⟩, hn, ⟨g', args'⟩, hc, rfl, rfl, rfl, rfl, rfl⟩ := he
  exact RunA.op hn (OpK.call hc hf hr)
theorem RunA.new (fuel : Nat) (cs : Array Value) (t : TypeId) (mk : Nat → Value) (dst : Option Nat) (ex : Bool) (L1 : Array Bool)
    (he : ((nextA n s ops qs L).bind fun x => (newBlk P (evD n s) x.1).map fun c => (c.1, c.2.1, c.2.2, x.1.dst, x.2.1, x.2.2)) = some (cs, t, mk, dst, ex, L1))
    (hr : ∀ g h', g = h.size → Ext h h' → Blk h' g cs t → (ex = false → C h') ∧ RunA P f n ops C qs fuel L1 k (putO s dst (mk g)) h' w0 R) : RunA P f n ops C qs (fuel + 1) L k s h w0 R := by
  simp only [Option.bind_eq_some_iff, Option.map_eq_some_iff, Prod.mk.injEq] at he
  obtain ⟨⟨o, ex', L2⟩, hn, ⟨cs', t', mk'⟩, hc, rfl, rfl, rfl, rfl, rfl, rfl⟩ := he
  exact RunA.op hn (OpK.new hc hr)
theorem RunA.store (fuel : Nat) (g off : Nat) (vs : List Value) (ex : Bool) (L1 : Array Bool) {cs : Array Value} {t : TypeId}
    (he : ((nextA n s ops qs L).bind fun x => (storeOf P (evD n s) x.1).map fun c => (c.1, c.2, x.1.dst, x.2.1, x.2.2)) = some (⟨g, off, none⟩, vs, none, ex, L1))
    (hg : Blk h g cs t) (hl : off + vs.length ≤ cs.size) (hone : vs.all one = true)
    (hr : ∀ h', Mod (some g) h h' → h'.size = h.size → Blk h' g (setAt cs off vs) t → (ex = false → C h') ∧ RunA P f n ops C qs fuel L1 k s h' w0 R) : RunA P f n ops C qs (fuel + 1) L k s h w0 R := by
  simp only [Option.bind_eq_some_iff, Option.map_eq_some_iff, Prod.mk.injEq] at he
  obtain ⟨⟨o, ex', L2⟩, hn, ⟨ad, vs'⟩, hc, rfl, rfl, hd, rfl, rfl⟩ := he
  exact RunA.op hn (OpK.store hc hd hg hl hone hr)
theorem RunA.append (fuel : Nat) (sv xv : Value) (e : TypeId) (dst : Option Nat) (ex : Bool) (L1 : Array Bool) {l m : Nat} {cs xs : List Value} {og : Option Nat} (sz bytes : Nat)
    (he : ((nextA n s ops qs L).bind fun x => (appendOf P (evD n s) x.1).map fun c => (c.1, c.2.1, c.2.2, x.1.dst, x.2.1, x.2.2)) = some (sv, xv, e, dst, ex, L1))
    (hinf : ((P.info? e).bind fun i => i.zero.map fun z => (i.size, i.bytes, decide (z.cells.size = i.size))) = some (sz, bytes, true)) (hb0 : 0 < bytes)
    (hown : Own h e sz sv l cs og) (hsrc : Src P h xv sz m xs) (hxl : xs.length = m * sz) (hone : xs.all one = true) (hb : (2 * (l + m) + 400) * bytes ≤ 281474976710656)
    (hr : ∀ A c h' og', Own h' e sz (.slice A (l + m) c) (l + m) (cs ++ xs) og' → Mod og h h' → (og' = og ∨ og' = some h.size) → (ex = false → C h') ∧ RunA P f n ops C qs fuel L1 k (putO s dst (.slice A (l + m) c)) h' w0 R) : RunA P f n ops C qs (fuel + 1) L k s h w0 R := by
  simp only [Option.bind_eq_some_iff, Option.map_eq_some_iff, Prod.mk.injEq] at he
  obtain ⟨⟨o, ex', L2⟩, hn, ⟨sv', xv', e'⟩, hc, rfl, rfl, rfl, rfl, rfl, rfl⟩ := he
  exact RunA.op hn (OpK.append hc hinf hb0 hown hsrc hxl hone hb hr)
end
end Go.Vc
