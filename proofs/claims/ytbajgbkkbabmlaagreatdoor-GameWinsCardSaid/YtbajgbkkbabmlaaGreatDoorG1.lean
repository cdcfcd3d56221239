/- The frame of this seat's statements: what their conditions give, a world that meets them, their arguments opened. -/
import Derived.Test.YtbajgbkkbabmlaaGreatDoorTie
import Derived.Test.YtbajgbkkbabmlaaGreatDoorVr
import Derived.Test.YtbajgbkkbabmlaaGreatDoorS4
import Derived.LaidHandle
import Derived.Stop.LaidErr
import Derived.Stop.Joined
set_option linter.unusedVariables false
namespace Go.Proofs.YtbajgbkkbabmlaaGreatDoor
open Go.Vc Go.ChangeShapes Go.WideShapes Go.RowKit

theorem laidOut : laidOutB Tryz.prog = true := by kernel_rfl
theorem own0 : ownKnob Tryz.prog.godebug = none := by kernel_rfl
/-- The tables that the rows list. -/
def laidL : List (String × DataW Unit) := [("math/bits.deBruijn32tab", Rows.laid_math_bits_deBruijn32tab), ("math/bits.deBruijn64tab", Rows.laid_math_bits_deBruijn64tab), ("internal/strconv.uint64pow10", Rows.laid_internal_strconv_uint64pow10)]
theorem tab_of_laid {W : World} (h : laidMet Tryz.prog laidL W) : Tab W.heap := by
  have h1 : Lib.TabIs Tryz.prog W "internal/strconv.uint64pow10" .u64 Lib.pow10Tab :=
    Lib.tabIs_of_head (g := 0) (t := 214) (e := 118) (n := 20) (rest := []) (by kernel_rfl) (by kernel_rfl) Tryz.underlying214 Tryz.underlying118 (by kernel_rfl) (by kernel_rfl) h.tail.tail
  intro w hw
  unfold Lib.TabIs World.var? at *
  rw [hw]; exact h1
def litsU8 : List (DataW Unit) → List Value
  | [] => []
  | .lit (.int k n) :: r => .int k n :: litsU8 r
  | _ :: r => litsU8 r
def cellsOfD : DataW Unit → Array Value
  | .agg l => (litsU8 l).toArray
  | _ => #[]
def layAt (c : Array Value) : Obj → Obj
  | .cells _ t fr => .cells c t fr
  | o => o
/-- A world that meets the condition. -/
noncomputable def laidWorld (os : Os) : World :=
  let w0 := World.holding Tryz.prog os ⟨#[], #[], []⟩
  { w0 with heap := ((w0.heap.modify 0 (layAt (cellsOfD Rows.laid_internal_strconv_uint64pow10))).modify 1 (layAt (cellsOfD Rows.laid_math_bits_deBruijn32tab))).modify 2 (layAt (cellsOfD Rows.laid_math_bits_deBruijn64tab)) }
theorem laid_met (os : Os) (args : Array Value) : laidMet Tryz.prog laidL ((laidWorld os).forCall (fun _ _ => 0) ⟨#[], args, []⟩).memory :=
  laidMet_of_run' 8 (by kernel_rfl) (by kernel_rfl)
set_option maxRecDepth 100000 in
/-- A system that came in. -/
theorem open_Lts {H : Type} {enc : TypeId × Value → H} {W : World} {base : Nat} {v : Value} {d : DataW H} {p : List MemPlace} (hv : Value.okWide Tryz.prog W .any base 25 v) (h : DataW.Trod enc Tryz.prog W 0 (fun _ => true) true 25 v d p)
    (hw : InReach Tryz.prog 25 d) : ∃ (l : Lt) (A1 A2 : Option Addr) (c1 c2 : Nat), v = .agg #[.int .i64 l.n, .slice A1 l.ls.length c1, .slice A2 l.es.length c2] ∧ LtAt W.heap l A1 c1 A2 c2 := by
  obtain ⟨v0, v1, v2, y0, y1, y2, n, rfl, rfl, rfl, k0, k1, k2⟩ := Joins.open_agg3 Tryz.underlying25 (by kernel_rfl) (by kernel_rfl) hv h
  obtain ⟨x, rfl⟩ := okInt Tryz.underlying3 k0
  have hwe : ∀ n ∈ DataW.weightsEach Tryz.prog [3, 22, 23] [y0.1, y1.1, y2.1], n ≤ reachBytes := fun n hn => hw n (by
    unfold DataW.weights
    rw [Tryz.underlying25]
    exact hn)
  simp only [DataW.weightsEach, List.mem_append] at hwe
  obtain ⟨A1, c1, ls, e1, r1⟩ := open_Strs Tryz.underlying22 Tryz.underlying9 (by kernel_rfl) (of_decide_eq_true (by kernel_rfl)) k1 (fun n hn => hwe n (.inr (.inl hn)))
  obtain ⟨A2, c2, es, e2, r2⟩ := open_Edges Tryz.underlying23 Tryz.underlying64 Tryz.underlying3 Tryz.underlying3 Tryz.underlying3 rfl rfl rfl (by kernel_rfl) (by kernel_rfl) (by kernel_rfl) (by kernel_rfl) (of_decide_eq_true (by kernel_rfl)) k2 (fun n hn => hwe n (.inr (.inr (.inl hn))))
  simp only [List.cons.injEq, and_true] at e1 e2
  subst e1 e2
  exact ⟨⟨x, ls, es⟩, A1, A2, c1, c2, rfl, r1, r2⟩
set_option maxRecDepth 100000 in
theorem open_P {H : Type} {enc : TypeId × Value → H} {W : World} {base : Nat} {v : Value} {d : DataW H} {p : List MemPlace} (hv : Value.okWide Tryz.prog W .any base 58 v) (h : DataW.Trod enc Tryz.prog W 0 (fun _ => true) true 58 v d p)
    (hw : InReach Tryz.prog 58 d) : ∃ (A : Option Addr) (c : Nat) (xs : List Int), v = .slice A xs.length c ∧ Ints W.heap A xs c := by
  obtain ⟨fuel, hf⟩ := h
  obtain ⟨A, c, xs, e, r⟩ := open_Ints Tryz.underlying58 Tryz.underlying3 (by kernel_rfl) (of_decide_eq_true (by kernel_rfl)) hf hw
  obtain ⟨a, l, c', rfl⟩ := okWide_slice Tryz.underlying58 hv
  refine ⟨A, c, xs, ?_, r⟩
  simpa [Value.cells] using e
set_option maxRecDepth 100000 in
theorem open_M {H : Type} {enc : TypeId × Value → H} {W : World} {base : Nat} {v : Value} {d : DataW H} {p : List MemPlace} (hv : Value.okWide Tryz.prog W .any base 35 v) (h : DataW.Trod enc Tryz.prog W 0 (fun _ => true) true 35 v d p)
    (hw : InReach Tryz.prog 35 d) : ∃ (A : Option Addr) (c : Nat) (xss : List (List Int)), v = .slice A xss.length c ∧ Rows2 W.heap A xss c := by
  obtain ⟨fuel, hf⟩ := h
  obtain ⟨A, c, xs, e, r⟩ := open_Rows2 Tryz.underlying35 Tryz.underlying58 Tryz.underlying3 (by kernel_rfl) (by kernel_rfl) (of_decide_eq_true (by kernel_rfl)) (of_decide_eq_true (by kernel_rfl)) hf hw
  obtain ⟨a, l, c', rfl⟩ := okWide_slice Tryz.underlying35 hv
  refine ⟨A, c, xs, ?_, r⟩
  simpa [Value.cells] using e
theorem weights_three {H : Type} {P : Program} {t1 t2 t3 : TypeId} {d1 d2 d3 : DataW H} (h : (DataW.weightsEach P [t1, t2, t3] [d1, d2, d3]).all (· ≤ reachBytes) = true) : InReach P t1 d1 ∧ InReach P t2 d2 ∧ InReach P t3 d3 := by
  simp only [DataW.weightsEach, List.all_append, Bool.and_eq_true, List.all_eq_true, decide_eq_true_eq] at h
  exact ⟨h.1, h.2.1, h.2.2.1⟩
theorem weights_two {H : Type} {P : Program} {t1 t2 : TypeId} {d1 d2 : DataW H} (h : (DataW.weightsEach P [t1, t2] [d1, d2]).all (· ≤ reachBytes) = true) : InReach P t1 d1 ∧ InReach P t2 d2 := by
  simp only [DataW.weightsEach, List.all_append, Bool.and_eq_true, List.all_eq_true, decide_eq_true_eq] at h
  exact ⟨h.1, h.2.1⟩
theorem weights_one {H : Type} {P : Program} {t1 : TypeId} {d1 : DataW H} (h : (DataW.weightsEach P [t1] [d1]).all (· ≤ reachBytes) = true) : InReach P t1 d1 := by
  simp only [DataW.weightsEach, List.all_append, Bool.and_eq_true, List.all_eq_true, decide_eq_true_eq] at h
  exact h.1
end Go.Proofs.YtbajgbkkbabmlaaGreatDoor
