/- The statement GameWins of layer 58 holds: for every system and two nodes the given Go function returns true, and its arguments read as before. Conditions: the listed tables of the library read as the program's text lays them (the card ties that). -/
import Derived.Test.YtbajgbkkbabmlaaGreatDoorO19
import Derived.Test.YtbajgbkkbabmlaaGreatDoorG1
import Derived.Test.YtbajgbkkbabmlaaGreatDoorCards
import Derived.SevenTiedAt
set_option linter.unusedVariables false
namespace Go.Proofs.YtbajgbkkbabmlaaGreatDoor
open Go.Vc Go.ChangeShapes Go.WideShapes Go.RowKit

set_option maxRecDepth 100000 in
theorem gameWins_lifted (os : Os) (started : os.Started) (H : Type) (enc : TypeId × Value → H) :
    ReturnsInHanded {} Tryz.checked os 9 .any (fun w args => (Rows.gameWinsSpec.pre enc Tryz.prog Tryz.f9 [] false w args ∧ laidMet Tryz.prog laidL w) ∧ sizedMet enc Tryz.prog Tryz.f9 (OpenSpec.ofChange Rows.gameWinsSpec) false w args)
      (Rows.gameWinsSpec.post enc Tryz.prog Tryz.f9 false true false false) := by
  refine law_lifted (C := Tryz.checked) (s := Rows.gameWinsSpec) (X := fun w _ => laidMet Tryz.prog laidL w) (tb := 4) (fun _ _ _ hh h => h.of_heap hh) laidOut own0 (by kernel_rfl) Tryz.func9 rfl
    (fun H ds hd => ?_) (by kernel_rfl) Tryz.underlying4 (by kernel_rfl) os started H enc
    (ChangeSpec.witness_at (enc := enc) (C := Tryz.checked) (os := os) (X := fun w _ => laidMet Tryz.prog laidL w) false (laidWorld os) #[.agg #[.int .i64 0, .slice none 0 0, .slice none 0 0], .int .i64 0, .int .i64 0] 8 rfl (by kernel_rfl) (by kernel_rfl) (by kernel_rfl) (by kernel_rfl) (by kernel_rfl) (laid_met os _)) ?_
  · rw [Tryz.params9] at hd
    match ds, hd with
    | [a, b, c], _ => rfl
  · intro W base args ds p hval hA hwt hL
    rw [Tryz.params9] at hA hval hwt
    obtain ⟨v0, v1, v2, d0, d1, d2, p0, p1, p2, rfl, rfl, rfl, h0, h1, h2⟩ := trodAll_three hA
    obtain ⟨w0, w1, w2⟩ := weights_three hwt
    obtain ⟨l0, A0, B0, c0, e0, rfl, hx0⟩ := open_Lts (hval 0 25 v0 rfl rfl) h0 w0
    obtain ⟨x1, rfl, _, _, _⟩ := open_int Tryz.underlying3 (hval 1 3 v1 rfl rfl) h1
    obtain ⟨x2, rfl, _, _, _⟩ := open_int Tryz.underlying3 (hval 2 3 v2 rfl rfl) h2
    exact GameWins_ct A0 B0 c0 e0 l0 x1 x2 W.heap hx0 (tab_of_laid hL)
theorem gameWins_holds : Rows.GameWinsSaid :=
  OpenClaim.holds_of_wide 9 Tryz.f9 rfl rfl rfl rfl rfl rfl rfl ⟨rfl, rfl, rfl, rfl, rfl⟩ rfl rfl rfl rfl rfl (by kernel_rfl) Tryz.func9 (by kernel_rfl)
    (of_decide_eq_true (by kernel_rfl)) (by unfold Func.isWrapper; rw [if_neg (of_decide_eq_false (by kernel_rfl))]; exact ⟨rfl, rfl⟩)
    (fun os started H enc _ => gameWins_lifted os started H enc)
theorem gameWins_card : Rows.GameWinsCardSaid :=
  Claim7.holds_tied_plain_at .later [] [.data, .data, .data] true (true, "a357b03458c5af274fd1b7e8155e93e98ceb6a1d79f1ba7ab48915133d678352") false
    gameWins_holds (fun _ h => by cases h) (by kernel_rfl) (fun _ h => by cases h) gameWins_row_tie rfl ⟨rfl, rfl⟩ (by kernel_rfl) rfl
    (fun f fn hf hfn => by
      obtain rfl : f = 9 := Option.some.inj ((show Tryz.prog.funcNamed "semblance/semblancelaw58.GameWins" = some 9 by kernel_rfl).symm.trans hf) |>.symm
      obtain rfl : fn = Tryz.f9 := (Option.some.inj (Tryz.func9.symm.trans hfn)).symm
      refine ⟨by kernel_rfl, fun j t ht => ?_⟩
      have hall : Tryz.f9.params.toList.all (fun t => !Tryz.prog.wantsStandIn t) = true := by kernel_rfl
      have := List.all_eq_true.1 hall t (List.mem_of_getElem? (l := Tryz.f9.params.toList) (i := j) (a := t) (by simpa using ht))
      show Tryz.prog.wantsStandIn t = false
      simpa using this)
    (by kernel_rfl)
#print axioms gameWins_card
end Go.Proofs.YtbajgbkkbabmlaaGreatDoor
