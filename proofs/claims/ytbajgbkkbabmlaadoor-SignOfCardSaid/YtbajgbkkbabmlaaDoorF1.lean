/- The statement SignOf of layer 32 holds: for every system, partition and node the given Go function returns true, and its arguments read as before; conditions: the three listed tables of the library read as the program's text lays them (the card ties that). -/
import Derived.Test.YtbajgbkkbabmlaaDoorK3
import Derived.Test.YtbajgbkkbabmlaaDoorG1
import Derived.Test.YtbajgbkkbabmlaaDoorCards
import Derived.SevenTiedAt
namespace Go.Proofs.YtbajgbkkbabmlaaDoor
open Go.Vc Go.ChangeShapes Go.WideShapes Go.RowKit

set_option maxRecDepth 100000 in
theorem signOf_lifted (os : Os) (started : os.Started) (H : Type) (enc : TypeId × Value → H) :
    ReturnsInHanded {} Tryd.checked os 3 .any (fun w args => (Rows.signOfSpec.pre enc Tryd.prog Tryd.f3 [] false w args ∧ laidMet Tryd.prog laidL w) ∧ sizedMet enc Tryd.prog Tryd.f3 (OpenSpec.ofChange Rows.signOfSpec) false w args)
      (Rows.signOfSpec.post enc Tryd.prog Tryd.f3 false true false false) := by
  refine law_lifted (C := Tryd.checked) (s := Rows.signOfSpec) (X := fun w _ => laidMet Tryd.prog laidL w) (tb := 4) (fun _ _ _ hh h => h.of_heap hh) laidOut own0 (by kernel_rfl) Tryd.func3 rfl
    (fun H ds hd => ?_) (by kernel_rfl) Tryd.underlying4 (by kernel_rfl) os started H enc
    (ChangeSpec.witness_at (enc := enc) (C := Tryd.checked) (os := os) (X := fun w _ => laidMet Tryd.prog laidL w) false (laidWorld os) #[.agg #[.int .i64 0, .slice none 0 0, .slice none 0 0], .slice none 0 0, .int .i64 0] 8 rfl (by kernel_rfl) (by kernel_rfl) (by kernel_rfl) (by kernel_rfl) (by kernel_rfl) (laid_met os _)) ?_
  · rw [Tryd.params3] at hd
    match ds, hd with
    | [a, b, c], _ => rfl
  · intro W base args ds p hval hA hwt hL
    rw [Tryd.params3] at hA hval hwt
    obtain ⟨v0, v1, v2, d0, d1, d2, p0, p1, p2, rfl, rfl, rfl, h0, h1, h2⟩ := trodAll_three hA
    obtain ⟨w0, w1, _⟩ := weights_three hwt
    obtain ⟨l, A1, A2, c1, c2, rfl, hx⟩ := open_Lts (hval 0 25 v0 rfl rfl) h0 w0
    obtain ⟨A3, c3, xs, rfl, hp⟩ := open_P (hval 1 26 v1 rfl rfl) h1 w1
    obtain ⟨n, rfl, _, _, _⟩ := open_int Tryd.underlying3 (hval 2 3 v2 rfl rfl) h2
    exact SignOf_ct A1 A2 A3 c1 c2 c3 l xs n W.heap hx hp (tab_of_laid hL)
theorem signOf_holds : Rows.SignOfSaid :=
  OpenClaim.holds_of_wide 3 Tryd.f3 rfl rfl rfl rfl rfl rfl rfl ⟨rfl, rfl, rfl, rfl, rfl⟩ rfl rfl rfl rfl rfl (by kernel_rfl) Tryd.func3 (by kernel_rfl)
    (of_decide_eq_true (by kernel_rfl)) (by unfold Func.isWrapper; rw [if_neg (of_decide_eq_false (by kernel_rfl))]; exact ⟨rfl, rfl⟩)
    (fun os started H enc _ => signOf_lifted os started H enc)
theorem signOf_card : Rows.SignOfCardSaid :=
  Claim7.holds_tied_plain_at .later [] [.data, .data, .data] true (true, "7a489c009b37f62bcf9c09e14d883c15ca5660a5fd013ec801e6419b8a42f085") false
    signOf_holds (fun _ h => by cases h) (by kernel_rfl) (fun _ h => by cases h) signOf_row_tie rfl ⟨rfl, rfl⟩ (by kernel_rfl) rfl
    (fun f fn hf hfn => by
      obtain rfl : f = 3 := Option.some.inj ((show Tryd.prog.funcNamed "semblance/semblancelaw32.SignOf" = some 3 by kernel_rfl).symm.trans hf) |>.symm
      obtain rfl : fn = Tryd.f3 := (Option.some.inj (Tryd.func3.symm.trans hfn)).symm
      refine ⟨by kernel_rfl, fun j t ht => ?_⟩
      have hall : Tryd.f3.params.toList.all (fun t => !Tryd.prog.wantsStandIn t) = true := by kernel_rfl
      have := List.all_eq_true.1 hall t (by
        have := List.mem_of_getElem? (l := Tryd.f3.params.toList) (i := j) (a := t) (by simpa using ht)
        exact this)
      show Tryd.prog.wantsStandIn t = false
      simpa using this)
    (by kernel_rfl)
#print axioms signOf_card
end Go.Proofs.YtbajgbkkbabmlaaDoor
