/- Regions of open order where more than one loud operation may come up: one proof for each. -/
import Derived.Test.YtbajgbkkbabmlaaGreatDoorVn
set_option linter.unusedVariables false
namespace Go.Vc
section
variable {P : Program} {f : FuncId} {n : Nat} {k k1 : List Item} {s s' : Env} {h : Heap} {w0 : Base} {R R1 : Value → Heap → Prop} {ops : Array Oper} {C : HP} {qs : List Nat} {fuel : Nat} {L L' : Array Bool}
/-- Operation i; whether it waits for all reading ones; what is done behind it. -/
def nextI (i : Nat) (n : Nat) (s : Env) (ops : Array Oper) (qs : List Nat) (L : Array Bool) : Option (Oper × Bool × Array Bool) :=
  match ops[i]? with
  | some o => if Region.wanted o (yieldedE n s ops) = true then some (o, exB ops qs i, L.setIfInBounds i true) else none
  | none => none
/-- .. where operation i is taken next. -/
def RunJ (i : Nat) (P : Program) (f : FuncId) (n : Nat) (ops : Array Oper) (C : HP) (qs : List Nat) (fuel : Nat) (L : Array Bool) (k : List Item) (s : Env) (h : Heap) (w0 : Base) (R : Value → Heap → Prop) : Prop :=
  ∃ (o : Oper) (ex : Bool) (L1 : Array Bool), nextI i n s ops qs L = some (o, ex, L1) ∧ OpK P n s h w0 o (fun s' h' => (ex = false → C h') ∧ RunA P f n ops C qs fuel L1 k s' h' w0 R)
theorem RunA.forks {is : List Nat} (hr : Region.ready .any ops L = is) (hne : is ≠ []) (hh : ∀ i ∈ is, RunJ i P f n ops C qs fuel L k s h w0 R) : RunA P f n ops C qs (fuel + 1) L k s h w0 R := fun a w ha hw h0 => by
  refine ⟨fun h => absurd (hr.symm.trans h) hne, fun j hj => ?_⟩
  rw [hr] at hj
  obtain ⟨o, ex, L1, hn, hh⟩ := hh j hj
  unfold nextI at hn
  split at hn
  · rename_i o' ho
    split at hn
    · rename_i hwa
      simp only [Option.some.injEq, Prod.mk.injEq] at hn
      obtain ⟨rfl, rfl, rfl⟩ := hn
      unfold wpOp
      simp only [ho, yielded_eq ha, hwa, if_true]
      refine .inl ?_
      have := hh a w ha hw h0
      unfold Oper.wp at this ⊢
      generalize (execOp a.eval o').run P w = r at this ⊢
      have fin : ∀ a' w', (∃ s' h', Fits n s' a' ∧ w'.heap = h' ∧ Same0 w0 w' ∧ (exB ops qs j = false → C h') ∧ RunA P f n ops C qs fuel (L.setIfInBounds j true) k s' h' w0 R) →
          (exB ops qs j = false → C w'.heap ∧ Same0 w0 w') ∧ wpAnyL P ops (fun e a' w' => e = .normal ∧ ∃ s' h', Fits n s' a' ∧ w'.heap = h' ∧ Same0 w0 w' ∧ Run P f n k s' h' w0 R) (fun w' => C w'.heap ∧ Same0 w0 w') qs fuel (L.setIfInBounds j true) a' w' := by
        rintro a' w' ⟨s', h', h1, rfl, h3, h4, h5⟩
        exact ⟨fun e => ⟨h4 e, h3⟩, h5 a' w' h1 rfl h3⟩
      cases r with
      | ok u w' =>
        cases u <;> simp only [Oper.upon] at this ⊢
        case value u => exact fin _ _ this
        case skip => exact fin _ _ this
        case defer d => exact fin _ _ this
        case enter g args =>
          refine Calls.mono this fun e w'' he => ?_
          cases e <;> simp only at he ⊢ <;> first | exact fin _ _ he | exact he.elim | (obtain ⟨_, _, hf⟩ := he; exact hf.elim)
        case row row args => exact Rows.mono this fun u w'' he => fin _ _ he
      | halt x w' =>
        cases x <;> simp only [Oper.upon] at this ⊢
        all_goals exact this.elim
    · cases hn
  · cases hn
theorem RunA.fork2 (fuel : Nat) (i j : Nat) (hr : Region.ready .any ops L = [i, j]) (h1 : RunJ i P f n ops C qs fuel L k s h w0 R) (h2 : RunJ j P f n ops C qs fuel L k s h w0 R) : RunA P f n ops C qs (fuel + 1) L k s h w0 R :=
  RunA.forks hr (by simp) fun q hq => by
    simp only [List.mem_cons, List.not_mem_nil, or_false] at hq
    rcases hq with rfl | rfl
    · exact h1
    · exact h2
theorem RunJ.call (i : Nat) (fuel : Nat) (g : FuncId) (args : Array Value) (dst : Option Nat) (ex : Bool) (L1 : Array Bool)
    (he : ((nextI i n s ops qs L).bind fun x => (callOf P (evD n s) x.1).map fun c => (c.1, c.2, x.1.dst, x.2.1, x.2.2)) = some (g, args, dst, ex, L1)) (hf : CtB w0.2 P g args h R1)
    (hr : ∀ v h', R1 v h' → (ex = false → C h') ∧ RunA P f n ops C qs fuel L1 k (putO s dst v) h' w0 R) : RunJ i P f n ops C qs fuel L k s h w0 R := by
  simp only [Option.bind_eq_some_iff, Option.map_eq_some_iff, Prod.mk.injEq] at he
  obtain ⟨⟨o, ex', L2⟩, hn, ⟨g', args'⟩, hc, rfl, rfl, rfl, rfl, rfl⟩ := he
  exact ⟨o, _, _, hn, OpK.call hc hf hr⟩
theorem RunJ.new (i : Nat) (fuel : Nat) (cs : Array Value) (t : TypeId) (mk : Nat → Value) (dst : Option Nat) (ex : Bool) (L1 : Array Bool)
    (he : ((nextI i n s ops qs L).bind fun x => (newBlk P (evD n s) x.1).map fun c => (c.1, c.2.1, c.2.2, x.1.dst, x.2.1, x.2.2)) = some (cs, t, mk, dst, ex, L1))
    (hr : ∀ g h', g = h.size → Ext h h' → Blk h' g cs t → (ex = false → C h') ∧ RunA P f n ops C qs fuel L1 k (putO s dst (mk g)) h' w0 R) : RunJ i P f n ops C qs fuel L k s h w0 R := by
  simp only [Option.bind_eq_some_iff, Option.map_eq_some_iff, Prod.mk.injEq] at he
  obtain ⟨⟨o, ex', L2⟩, hn, ⟨cs', t', mk'⟩, hc, rfl, rfl, rfl, rfl, rfl, rfl⟩ := he
  exact ⟨o, _, _, hn, OpK.new hc hr⟩
end
end Go.Vc
