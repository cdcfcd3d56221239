/- The statement LevelsApart of layer 33 holds: for every list of partitions and every two nodes the given Go function returns true, and its arguments read as before. Conditions: the listed tables of the library read as the program's text lays them (the card ties that). -/
import Derived.Test.YtbajgbkkbabmlaaDoorK5
import Derived.Test.YtbajgbkkbabmlaaDoorG1
import Derived.Test.YtbajgbkkbabmlaaDoorCards
import Derived.SevenTiedAt
set_option linter.unusedVariables false
namespace Go.Proofs.YtbajgbkkbabmlaaDoor
open Go.Vc Go.ChangeShapes Go.WideShapes Go.RowKit

set_option maxRecDepth 100000 in
theorem levelsApart_lifted (os : Os) (started : os.Started) (H : Type) (enc : TypeId × Value → H) :
    ReturnsInHanded {} Tryd.checked os 8 .any (fun w args => (Rows.levelsApartSpec.pre enc Tryd.prog Tryd.f8 [] false w args ∧ laidMet Tryd.prog laidL w) ∧ sizedMet enc Tryd.prog Tryd.f8 (OpenSpec.ofChange Rows.levelsApartSpec) false w args)
      (Rows.levelsApartSpec.post enc Tryd.prog Tryd.f8 false true false false) := by
  refine law_lifted (C := Tryd.checked) (s := Rows.levelsApartSpec) (X := fun w _ => laidMet Tryd.prog laidL w) (tb := 4) (fun _ _ _ hh h => h.of_heap hh) laidOut own0 (by kernel_rfl) Tryd.func8 rfl
    (fun H ds hd => ?_) (by kernel_rfl) Tryd.underlying4 (by kernel_rfl) os started H enc
    (ChangeSpec.witness_at (enc := enc) (C := Tryd.checked) (os := os) (X := fun w _ => laidMet Tryd.prog laidL w) false (laidWorld os) #[.slice none 0 0, .int .i64 0, .int .i64 0] 8 rfl (by kernel_rfl) (by kernel_rfl) (by kernel_rfl) (by kernel_rfl) (by kernel_rfl) (laid_met os _)) ?_
  · rw [Tryd.params8] at hd
    match ds, hd with
    | [a, b, c], _ => rfl
  · intro W base args ds p hval hA hwt hL
    rw [Tryd.params8] at hA hval hwt
    obtain ⟨v0, v1, v2, d0, d1, d2, p0, p1, p2, rfl, rfl, rfl, h0, h1, h2⟩ := trodAll_three hA
    obtain ⟨w0, w1, w2⟩ := weights_three hwt
    obtain ⟨A0, c0, x0, rfl, hx0⟩ := open_M (hval 0 42 v0 rfl rfl) h0 w0
    obtain ⟨x1, rfl, _, _, _⟩ := open_int Tryd.underlying3 (hval 1 3 v1 rfl rfl) h1
    obtain ⟨x2, rfl, _, _, _⟩ := open_int Tryd.underlying3 (hval 2 3 v2 rfl rfl) h2
    exact LevelsApart_ct A0 c0 x0 x1 x2 W.heap hx0 (tab_of_laid hL)
theorem levelsApart_holds : Rows.LevelsApartSaid :=
  OpenClaim.holds_of_wide 8 Tryd.f8 rfl rfl rfl rfl rfl rfl rfl ⟨rfl, rfl, rfl, rfl, rfl⟩ rfl rfl rfl rfl rfl (by kernel_rfl) Tryd.func8 (by kernel_rfl)
    (of_decide_eq_true (by kernel_rfl)) (by unfold Func.isWrapper; rw [if_neg (of_decide_eq_false (by kernel_rfl))]; exact ⟨rfl, rfl⟩)
    (fun os started H enc _ => levelsApart_lifted os started H enc)
theorem levelsApart_card : Rows.LevelsApartCardSaid :=
  Claim7.holds_tied_plain_at .later [] [.data, .data, .data] true (true, "7a489c009b37f62bcf9c09e14d883c15ca5660a5fd013ec801e6419b8a42f085") false
    levelsApart_holds (fun _ h => by cases h) (by kernel_rfl) (fun _ h => by cases h) levelsApart_row_tie rfl ⟨rfl, rfl⟩ (by kernel_rfl) rfl
    (fun f fn hf hfn => by
      obtain rfl : f = 8 := Option.some.inj ((show Tryd.prog.funcNamed "semblance/semblancelaw33.LevelsApart" = some 8 by kernel_rfl).symm.trans hf) |>.symm
      obtain rfl : fn = Tryd.f8 := (Option.some.inj (Tryd.func8.symm.trans hfn)).symm
      refine ⟨by kernel_rfl, fun j t ht => ?_⟩
      have hall : Tryd.f8.params.toList.all (fun t => !Tryd.prog.wantsStandIn t) = true := by kernel_rfl
      have := List.all_eq_true.1 hall t (List.mem_of_getElem? (l := Tryd.f8.params.toList) (i := j) (a := t) (by simpa using ht))
      show Tryd.prog.wantsStandIn t = false
      simpa using this)
    (by kernel_rfl)
#print axioms levelsApart_card
end Go.Proofs.YtbajgbkkbabmlaaDoor
