/- The statement LevelsLast of layer 33 holds: for every system and partition the given Go function returns true, and its arguments read as before. Conditions: the listed tables of the library read as the program's text lays them (the card ties that). -/
import Derived.Test.YtbajgbkkbabmlaaDoorK5
import Derived.Test.YtbajgbkkbabmlaaDoorG1
import Derived.Test.YtbajgbkkbabmlaaDoorCards
import Derived.SevenTiedAt
set_option linter.unusedVariables false
namespace Go.Proofs.YtbajgbkkbabmlaaDoor
open Go.Vc Go.ChangeShapes Go.WideShapes Go.RowKit

set_option maxRecDepth 100000 in
theorem levelsLast_lifted (os : Os) (started : os.Started) (H : Type) (enc : TypeId × Value → H) :
    ReturnsInHanded {} Tryd.checked os 7 .any (fun w args => (Rows.levelsLastSpec.pre enc Tryd.prog Tryd.f7 [] false w args ∧ laidMet Tryd.prog laidL w) ∧ sizedMet enc Tryd.prog Tryd.f7 (OpenSpec.ofChange Rows.levelsLastSpec) false w args)
      (Rows.levelsLastSpec.post enc Tryd.prog Tryd.f7 false true false false) := by
  refine law_lifted (C := Tryd.checked) (s := Rows.levelsLastSpec) (X := fun w _ => laidMet Tryd.prog laidL w) (tb := 4) (fun _ _ _ hh h => h.of_heap hh) laidOut own0 (by kernel_rfl) Tryd.func7 rfl
    (fun H ds hd => ?_) (by kernel_rfl) Tryd.underlying4 (by kernel_rfl) os started H enc
    (ChangeSpec.witness_at (enc := enc) (C := Tryd.checked) (os := os) (X := fun w _ => laidMet Tryd.prog laidL w) false (laidWorld os) #[.agg #[.int .i64 0, .slice none 0 0, .slice none 0 0], .slice none 0 0] 8 rfl (by kernel_rfl) (by kernel_rfl) (by kernel_rfl) (by kernel_rfl) (by kernel_rfl) (laid_met os _)) ?_
  · rw [Tryd.params7] at hd
    match ds, hd with
    | [a, b], _ => rfl
  · intro W base args ds p hval hA hwt hL
    rw [Tryd.params7] at hA hval hwt
    obtain ⟨v0, v1, d0, d1, p0, p1, rfl, rfl, rfl, h0, h1⟩ := trodAll_two hA
    obtain ⟨w0, w1⟩ := weights_two hwt
    obtain ⟨l0, A0, B0, c0, e0, rfl, hx0⟩ := open_Lts (hval 0 25 v0 rfl rfl) h0 w0
    obtain ⟨A1, c1, x1, rfl, hx1⟩ := open_P (hval 1 26 v1 rfl rfl) h1 w1
    exact LevelsLast_ct A0 B0 A1 c0 e0 c1 l0 x1 W.heap hx0 hx1 (tab_of_laid hL)
theorem levelsLast_holds : Rows.LevelsLastSaid :=
  OpenClaim.holds_of_wide 7 Tryd.f7 rfl rfl rfl rfl rfl rfl rfl ⟨rfl, rfl, rfl, rfl, rfl⟩ rfl rfl rfl rfl rfl (by kernel_rfl) Tryd.func7 (by kernel_rfl)
    (of_decide_eq_true (by kernel_rfl)) (by unfold Func.isWrapper; rw [if_neg (of_decide_eq_false (by kernel_rfl))]; exact ⟨rfl, rfl⟩)
    (fun os started H enc _ => levelsLast_lifted os started H enc)
theorem levelsLast_card : Rows.LevelsLastCardSaid :=
  Claim7.holds_tied_plain_at .later [] [.data, .data, .data] true (true, "7a489c009b37f62bcf9c09e14d883c15ca5660a5fd013ec801e6419b8a42f085") false
    levelsLast_holds (fun _ h => by cases h) (by kernel_rfl) (fun _ h => by cases h) levelsLast_row_tie rfl ⟨rfl, rfl⟩ (by kernel_rfl) rfl
    (fun f fn hf hfn => by
      obtain rfl : f = 7 := Option.some.inj ((show Tryd.prog.funcNamed "semblance/semblancelaw33.LevelsLast" = some 7 by kernel_rfl).symm.trans hf) |>.symm
      obtain rfl : fn = Tryd.f7 := (Option.some.inj (Tryd.func7.symm.trans hfn)).symm
      refine ⟨by kernel_rfl, fun j t ht => ?_⟩
      have hall : Tryd.f7.params.toList.all (fun t => !Tryd.prog.wantsStandIn t) = true := by kernel_rfl
      have := List.all_eq_true.1 hall t (List.mem_of_getElem? (l := Tryd.f7.params.toList) (i := j) (a := t) (by simpa using ht))
      show Tryd.prog.wantsStandIn t = false
      simpa using this)
    (by kernel_rfl)
#print axioms levelsLast_card
end Go.Proofs.YtbajgbkkbabmlaaDoor
