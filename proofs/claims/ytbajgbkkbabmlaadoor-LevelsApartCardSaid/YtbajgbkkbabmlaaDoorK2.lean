/- The statements of layer 32, walked. -/
import Derived.Test.YtbajgbkkbabmlaaDoorProg
import Derived.Test.YtbajgbkkbabmlaaDoorS6
import Derived.Test.YtbajgbkkbabmlaaDoorR3
set_option linter.unusedVariables false
namespace Go.Proofs.YtbajgbkkbabmlaaDoor
open Go.Vc
theorem lx_19_1101231021231020 : LexOk (opsAt (at_ Tryd.f19 [1,1,0,1,2,3,1,0,2,1,2,3,1,0,2,0])) := ⟨by kernel_rfl⟩

theorem refStable_ct (A1 A2 A3 : Option Addr) (c1 c2 c3 : Nat) (l : Lt) (p : List Int) (h : Heap) (hx : LtAt h l A1 c1 A2 c2) (hp : Ints h A3 p c3) (hm : May l) (hn : (p.length : Int) = l.n) :
    Ct Tryd.prog 19 #[.agg #[.int .i64 l.n, .slice A1 l.ls.length c1, .slice A2 l.es.length c2], .slice A3 p.length c3] h (fun v h' => v = .bool (tv (StableP l.es p)) ∧ Ext h h') := by
  have hm2 := hm.n2
  have hpl := plainL_len p
  have hpp := plain_plain p
  refine Ct.enter (args := [.agg #[.int .i64 l.n, .slice A1 l.ls.length c1, .slice A2 l.es.length c2], .slice A3 p.length c3]) Tryd.func19 rfl Tryd.ntmps19 (by simp) fun w hw => ?_
  -- at 080
  refine Run.adv 2 [] (at_ Tryd.f19 [0,8,0]) [(0, .agg #[.int .i64 l.n, .slice A1 l.ls.length c1, .slice A2 l.es.length c2]), (1, .slice A3 p.length c3)]
    (True)
    (by as_aux_lemma => kernel_rfl) trivial fun s_ => ?_
  refine Run.new #[.int .i64 l.n, .slice A1 l.ls.length c1, .slice A2 l.es.length c2] 25 (fun g_ => .pointer (some ⟨g_, 0, none⟩)) (some 2) (at_ Tryd.f19 [0,8,1]) (by as_aux_lemma => kernel_rfl) fun g1 h1 hng1 hEg1 hBg1 => ?_
  -- at 1081
  refine Run.adv 5 [] (at_ Tryd.f19 [1,0,8,1]) [(0, .agg #[.int .i64 l.n, .slice A1 l.ls.length c1, .slice A2 l.es.length c2]), (1, .slice A3 p.length c3), (2, .pointer (some ⟨g1, 0, none⟩)), (4, .bool false), (7, .slice A3 p.length c3)]
    (True)
    (by as_aux_lemma => kernel_rfl) trivial fun s_ => ?_
  refine Run.call 16 #[.slice A3 p.length c3] (some 8) (at_ Tryd.f19 [1,0,8,2]) (by as_aux_lemma => kernel_rfl) (PlainR_ct A3 c3 p _ (hp.ext hEg1) (by omega)) ?_
  rintro v h2 ⟨og2, hO2, hE2, -⟩
  obtain ⟨A4, c4, rfl, hr4⟩ := hO2.row1 (d := 0) (by omega)
  -- at 11012
  refine Run.adv 8 [] (at_ Tryd.f19 [1,1,0,1,2]) [(1, .slice A4 ((plainL p).length) c4), (2, .pointer (some ⟨g1, 0, none⟩)), (5, .int .i64 0)]
    (True)
    (by as_aux_lemma => kernel_rfl) trivial fun s_ => ?_
  refine Run.loop (at_ Tryd.f19 [1,1,0,1,2,3]) (at_ Tryd.f19 [1,1,0,1,2,7]) (fun i : Nat => [(1, .slice A4 ((plainL p).length) c4), (2, .pointer (some ⟨g1, 0, none⟩)), (5, .int .i64 (i : Int))])
    (fun i h3 => i ≤ p.length ∧ (∀ a b : Nat, a < i → b < a → rd (plainL p) a = rd (plainL p) b → waysOf l.es (plainL p) a = waysOf l.es (plainL p) b) ∧ Ext h2 h3) (fun i => p.length - i) 0 (by as_aux_lemma => kernel_rfl) rfl ?_ ?_
  · exact ⟨Nat.zero_le _, fun a b ha => by omega, Ext.refl _⟩
  rintro i s_ h3 ⟨hi, hI, hE3⟩ again
  have hE13 := hE2.trans hE3
  have hE03 := hEg1.trans hE13
  by_cases hlt : i < p.length
  · obtain ⟨b, off, rfl, hp4⟩ := hr4.open_ (by omega)
    -- at 11012310212
    refine Run.adv 17 [.dec true] (at_ Tryd.f19 [1,1,0,1,2,3,1,0,2,1,2]) [(1, .slice (some ⟨b, off, none⟩) ((plainL p).length) c4), (2, .pointer (some ⟨g1, 0, none⟩)), (5, .int .i64 (i : Int)), (6, .int .i64 0)]
      ((decide ((i : Int) < ((plainL p).length : Int))) = true)
      (by as_aux_lemma => kernel_rfl) (by first | assumption | exact decide_eq_true (by first | omega | assumption)) fun s_ => ?_
    refine Run.loop (at_ Tryd.f19 [1,1,0,1,2,3,1,0,2,1,2,3]) (at_ Tryd.f19 [1,1,0,1,2,3,1,0,2,1,2,7]) (fun k : Nat => [(1, .slice (some ⟨b, off, none⟩) ((plainL p).length) c4), (2, .pointer (some ⟨g1, 0, none⟩)), (5, .int .i64 (i : Int)), (6, .int .i64 (k : Int))])
      (fun k h4 => k ≤ i ∧ (∀ b : Nat, b < k → rd (plainL p) i = rd (plainL p) b → waysOf l.es (plainL p) i = waysOf l.es (plainL p) b) ∧ Ext h3 h4) (fun k => i - k) 0 (by as_aux_lemma => kernel_rfl) rfl ?_ ?_
    · exact ⟨Nat.zero_le _, fun b hb => by omega, Ext.refl _⟩
    rintro k s_ h4 ⟨hk, hK, hE4⟩ again2
    have hE24 := hE3.trans hE4
    have hE14 := hE13.trans hE4
    have hE04 := hE03.trans hE4
    by_cases hlt2 : k < i
    · -- at 1101231021231020
      refine Run.adv 12 [.dec true] (at_ Tryd.f19 [1,1,0,1,2,3,1,0,2,1,2,3,1,0,2,0]) [(1, .slice (some ⟨b, off, none⟩) ((plainL p).length) c4), (2, .pointer (some ⟨g1, 0, none⟩)), (5, .int .i64 (i : Int)), (6, .int .i64 (k : Int))]
        ((decide ((k : Int) < (i : Int))) = true)
        (by as_aux_lemma => kernel_rfl) (by first | assumption | exact decide_eq_true (by first | omega | assumption)) fun s_ => ?_
      by_cases e1 : rd (plainL p) i = rd (plainL p) k
      · by_cases e2 : waysOf l.es (plainL p) i = waysOf l.es (plainL p) k
        · refine Run.drawE [.val (.int .i64 (rd (plainL p) (i : Int))), .val (.int .i64 (rd (plainL p) (k : Int))), .dec true, .val (.agg #[.int .i64 l.n, .slice A1 l.ls.length c1, .slice A2 l.es.length c2]), .lit, .lit, .lit, .lit, .val (.bool (decide (waysOf l.es (plainL p) i = waysOf l.es (plainL p) k))), .lit] (at_ Tryd.f19 [1,1,0,1,2,3,1,0,2,1,2,3,1,0,2,1]) [(1, .slice (some ⟨b, off, none⟩) ((plainL p).length) c4), (2, .pointer (some ⟨g1, 0, none⟩)), (5, .int .i64 (i : Int)), (6, .int .i64 (k : Int)), (36, .bool (!(decide (waysOf l.es (plainL p) i = waysOf l.es (plainL p) k))))]
            (fun H => LexOk (opsAt (at_ Tryd.f19 [1,1,0,1,2,3,1,0,2,1,2,3,1,0,2,0])) ∧ (0 ≤ (i : Int) ∧ (i : Int) < ((plainL p).length : Int)) ∧ cellH H ⟨b, off + (i : Int).toNat, none⟩ = some (.int .i64 (rd (plainL p) (i : Int))) ∧ (0 ≤ (k : Int) ∧ (k : Int) < ((plainL p).length : Int)) ∧ cellH H ⟨b, off + (k : Int).toNat, none⟩ = some (.int .i64 (rd (plainL p) (k : Int))) ∧ ((rd (plainL p) (i : Int)) == (rd (plainL p) (k : Int))) = true ∧ cellsAt H ⟨g1, 0, none⟩ [.int .i64 l.n, .slice A1 l.ls.length c1, .slice A2 l.es.length c2] 0 ∧ (Ct Tryd.prog 43 #[.agg #[.int .i64 l.n, .slice A1 l.ls.length c1, .slice A2 l.es.length c2], .slice (some ⟨b, off, none⟩) ((plainL p).length) c4, .int .i64 (i : Int), .int .i64 (k : Int)] H (fun v_ h_ => v_ = .bool (decide (waysOf l.es (plainL p) i = waysOf l.es (plainL p) k)) ∧ Ext H h_)))
            (by as_aux_lemma => kernel_rfl) (fun H hH => ⟨lx_19_1101231021231020, ⟨by omega, by omega⟩, (hp4 _ (hE24.trans hH) i (by omega) (by omega)), ⟨by omega, by omega⟩, (hp4 _ (hE24.trans hH) k (by omega) (by omega)), (beq_iff_eq.2 (by first | omega | assumption)), (hBg1.all (hE14.trans hH)), (Alike_ct A1 A2 _ c1 c2 c4 l (plainL p) i k _ (hx.ext (hE04.trans hH)) (hr4.ext (hE24.trans hH)) hm (by omega) hpp)⟩) fun H s_ hH => ?_
          -- at 110123102127
          refine Run.adv 8 [.dec false] (at_ Tryd.f19 [1,1,0,1,2,3,1,0,2,1,2,7]) [(1, .slice (some ⟨b, off, none⟩) ((plainL p).length) c4), (2, .pointer (some ⟨g1, 0, none⟩)), (5, .int .i64 (i : Int)), (6, .int .i64 ((k + 1 : Nat) : Int))]
            ((!(decide (waysOf l.es (plainL p) i = waysOf l.es (plainL p) k))) = false ∧ (-9223372036854775808 ≤ (k : Int) + 1 ∧ (k : Int) + 1 ≤ 9223372036854775807))
            (by as_aux_lemma => kernel_rfl) ⟨(bnf (decide_eq_true e2)), ⟨by omega, by omega⟩⟩ fun s_ => ?_
          refine again2 (k + 1) _ _ ⟨by omega, fun b hb hbe => ?_, hE4.trans hH⟩ (by omega)
          by_cases e3 : b = k
          · subst e3; exact e2
          · exact hK b (by omega) hbe
        · refine Run.drawE [.val (.int .i64 (rd (plainL p) (i : Int))), .val (.int .i64 (rd (plainL p) (k : Int))), .dec true, .val (.agg #[.int .i64 l.n, .slice A1 l.ls.length c1, .slice A2 l.es.length c2]), .lit, .lit, .lit, .lit, .val (.bool (decide (waysOf l.es (plainL p) i = waysOf l.es (plainL p) k))), .lit] (at_ Tryd.f19 [1,1,0,1,2,3,1,0,2,1,2,3,1,0,2,1]) [(36, .bool (!(decide (waysOf l.es (plainL p) i = waysOf l.es (plainL p) k))))]
            (fun H => LexOk (opsAt (at_ Tryd.f19 [1,1,0,1,2,3,1,0,2,1,2,3,1,0,2,0])) ∧ (0 ≤ (i : Int) ∧ (i : Int) < ((plainL p).length : Int)) ∧ cellH H ⟨b, off + (i : Int).toNat, none⟩ = some (.int .i64 (rd (plainL p) (i : Int))) ∧ (0 ≤ (k : Int) ∧ (k : Int) < ((plainL p).length : Int)) ∧ cellH H ⟨b, off + (k : Int).toNat, none⟩ = some (.int .i64 (rd (plainL p) (k : Int))) ∧ ((rd (plainL p) (i : Int)) == (rd (plainL p) (k : Int))) = true ∧ cellsAt H ⟨g1, 0, none⟩ [.int .i64 l.n, .slice A1 l.ls.length c1, .slice A2 l.es.length c2] 0 ∧ (Ct Tryd.prog 43 #[.agg #[.int .i64 l.n, .slice A1 l.ls.length c1, .slice A2 l.es.length c2], .slice (some ⟨b, off, none⟩) ((plainL p).length) c4, .int .i64 (i : Int), .int .i64 (k : Int)] H (fun v_ h_ => v_ = .bool (decide (waysOf l.es (plainL p) i = waysOf l.es (plainL p) k)) ∧ Ext H h_)))
            (by as_aux_lemma => kernel_rfl) (fun H hH => ⟨lx_19_1101231021231020, ⟨by omega, by omega⟩, (hp4 _ (hE24.trans hH) i (by omega) (by omega)), ⟨by omega, by omega⟩, (hp4 _ (hE24.trans hH) k (by omega) (by omega)), (beq_iff_eq.2 (by first | omega | assumption)), (hBg1.all (hE14.trans hH)), (Alike_ct A1 A2 _ c1 c2 c4 l (plainL p) i k _ (hx.ext (hE04.trans hH)) (hr4.ext (hE24.trans hH)) hm (by omega) hpp)⟩) fun H s_ hH => ?_
          -- at 110123102123102141
          refine Run.adv 5 [.dec true] (at_ Tryd.f19 [1,1,0,1,2,3,1,0,2,1,2,3,1,0,2,1,4,1]) [(4, .bool false)]
            ((!(decide (waysOf l.es (plainL p) i = waysOf l.es (plainL p) k))) = true)
            (by as_aux_lemma => kernel_rfl) (bnt (decide_eq_false e2)) fun s_ => ?_
          refine Run.ret [] (.bool false) (True) Tryd.func19 (by as_aux_lemma => kernel_rfl) (by as_aux_lemma => kernel_rfl) trivial ?_
          exact ⟨by rw [tv_no (fun hh => e2 (hh i k hlt (by omega) e1))], hE04.trans hH⟩
      · refine Run.drawE [.val (.int .i64 (rd (plainL p) (i : Int))), .val (.int .i64 (rd (plainL p) (k : Int))), .dec false, .lit, .lit, .lit, .lit, .lit] (at_ Tryd.f19 [1,1,0,1,2,3,1,0,2,1,2,3,1,0,2,1]) [(1, .slice (some ⟨b, off, none⟩) ((plainL p).length) c4), (2, .pointer (some ⟨g1, 0, none⟩)), (5, .int .i64 (i : Int)), (6, .int .i64 (k : Int)), (36, .bool false)]
          (fun H => LexOk (opsAt (at_ Tryd.f19 [1,1,0,1,2,3,1,0,2,1,2,3,1,0,2,0])) ∧ (0 ≤ (i : Int) ∧ (i : Int) < ((plainL p).length : Int)) ∧ cellH H ⟨b, off + (i : Int).toNat, none⟩ = some (.int .i64 (rd (plainL p) (i : Int))) ∧ (0 ≤ (k : Int) ∧ (k : Int) < ((plainL p).length : Int)) ∧ cellH H ⟨b, off + (k : Int).toNat, none⟩ = some (.int .i64 (rd (plainL p) (k : Int))) ∧ ((rd (plainL p) (i : Int)) == (rd (plainL p) (k : Int))) = false)
          (by as_aux_lemma => kernel_rfl) (fun H hH => ⟨lx_19_1101231021231020, ⟨by omega, by omega⟩, (hp4 _ (hE24.trans hH) i (by omega) (by omega)), ⟨by omega, by omega⟩, (hp4 _ (hE24.trans hH) k (by omega) (by omega)), (beq_eq_false_iff_ne.2 (by first | omega | assumption))⟩) fun H s_ hH => ?_
        -- at 110123102127
        refine Run.adv 8 [.lit] (at_ Tryd.f19 [1,1,0,1,2,3,1,0,2,1,2,7]) [(1, .slice (some ⟨b, off, none⟩) ((plainL p).length) c4), (2, .pointer (some ⟨g1, 0, none⟩)), (5, .int .i64 (i : Int)), (6, .int .i64 ((k + 1 : Nat) : Int))]
          ((-9223372036854775808 ≤ (k : Int) + 1 ∧ (k : Int) + 1 ≤ 9223372036854775807))
          (by as_aux_lemma => kernel_rfl) ⟨by omega, by omega⟩ fun s_ => ?_
        refine again2 (k + 1) _ _ ⟨by omega, fun b hb hbe => ?_, hE4.trans hH⟩ (by omega)
        by_cases e3 : b = k
        · subst e3; exact absurd hbe e1
        · exact hK b (by omega) hbe
    · -- at 110127
      refine Run.adv 15 [.dec false] (at_ Tryd.f19 [1,1,0,1,2,7]) [(1, .slice (some ⟨b, off, none⟩) ((plainL p).length) c4), (2, .pointer (some ⟨g1, 0, none⟩)), (5, .int .i64 ((i + 1 : Nat) : Int))]
        ((decide ((k : Int) < (i : Int))) = false ∧ (-9223372036854775808 ≤ (i : Int) + 1 ∧ (i : Int) + 1 ≤ 9223372036854775807))
        (by as_aux_lemma => kernel_rfl) ⟨(by first | assumption | exact decide_eq_false (by first | omega | assumption)), ⟨by omega, by omega⟩⟩ fun s_ => ?_
      refine again (i + 1) _ _ ⟨by omega, fun a b ha hb hab => ?_, hE24⟩ (by omega)
      by_cases e3 : a = i
      · subst e3; exact hK b (by omega) hab
      · exact hI a b (by omega) hb hab
  · -- at 1111
    refine Run.adv 14 [.dec false] (at_ Tryd.f19 [1,1,1,1]) [(4, .bool true)]
      ((decide ((i : Int) < ((plainL p).length : Int))) = false)
      (by as_aux_lemma => kernel_rfl) (by first | assumption | exact decide_eq_false (by first | omega | assumption)) fun s_ => ?_
    refine Run.ret [] (.bool true) (True) Tryd.func19 (by as_aux_lemma => kernel_rfl) (by as_aux_lemma => kernel_rfl) trivial ?_
    refine ⟨?_, hE03⟩
    rw [tv_yes]
    intro a b ha hb hab
    rcases Nat.lt_trichotomy a b with e | e | e
    · exact (hI b a (by omega) e hab.symm).symm
    · rw [e]
    · exact hI a b (by omega) e hab
/-- Is a system and a partition small? -/
def Small32 (l : Lt) (p : List Int) : Prop := Light26 l ∧ l.n ≤ 20 ∧ p.length ≤ 30 ∧ l.es.length ≤ 60 ∧ l.ls.length ≤ 8
theorem light32_ct (A1 A2 A3 : Option Addr) (c1 c2 c3 : Nat) (l : Lt) (p : List Int) (h : Heap) (hx : LtAt h l A1 c1 A2 c2) :
    Ct Tryd.prog 10 #[.agg #[.int .i64 l.n, .slice A1 l.ls.length c1, .slice A2 l.es.length c2], .slice A3 p.length c3] h (fun v h' => v = .bool (tv (Small32 l p)) ∧ Ext h h') := by
  refine Ct.enter (args := [.agg #[.int .i64 l.n, .slice A1 l.ls.length c1, .slice A2 l.es.length c2], .slice A3 p.length c3]) Tryd.func10 rfl Tryd.ntmps10 (by simp) fun w hw => ?_
  -- at 080
  refine Run.adv 2 [] (at_ Tryd.f10 [0,8,0]) [(0, .agg #[.int .i64 l.n, .slice A1 l.ls.length c1, .slice A2 l.es.length c2]), (1, .slice A3 p.length c3)]
    (True)
    (by as_aux_lemma => kernel_rfl) trivial fun s_ => ?_
  refine Run.new #[.int .i64 l.n, .slice A1 l.ls.length c1, .slice A2 l.es.length c2] 25 (fun g_ => .pointer (some ⟨g_, 0, none⟩)) (some 2) (at_ Tryd.f10 [0,8,1]) (by as_aux_lemma => kernel_rfl) fun g1 h1 hng1 hEg1 hBg1 => ?_
  -- at 1081
  refine Run.adv 5 [.val (.agg #[.int .i64 l.n, .slice A1 l.ls.length c1, .slice A2 l.es.length c2])] (at_ Tryd.f10 [1,0,8,1]) [(0, .agg #[.int .i64 l.n, .slice A1 l.ls.length c1, .slice A2 l.es.length c2]), (1, .slice A3 p.length c3), (2, .pointer (some ⟨g1, 0, none⟩)), (4, .bool false), (5, .agg #[.int .i64 l.n, .slice A1 l.ls.length c1, .slice A2 l.es.length c2])]
    (cellsAt h1 ⟨g1, 0, none⟩ [.int .i64 l.n, .slice A1 l.ls.length c1, .slice A2 l.es.length c2] 0)
    (by as_aux_lemma => kernel_rfl) (hBg1.all (Ext.refl _)) fun s_ => ?_
  refine Run.call 31 #[.agg #[.int .i64 l.n, .slice A1 l.ls.length c1, .slice A2 l.es.length c2]] (some 6) (at_ Tryd.f10 [1,0,8,2]) (by as_aux_lemma => kernel_rfl) (Light26_ct _ _ _ _ _ _ (hx.ext hEg1)) ?_
  rintro _ h2 ⟨rfl, hE2⟩
  have E2 := hEg1.trans hE2
  by_cases e1 : tv (Light26 l) = true
  · by_cases e2 : l.n ≤ 20
    · by_cases e3 : (p.length : Int) ≤ 30
      · by_cases e4 : (l.es.length : Int) ≤ 60
        · -- at 11
          refine Run.adv 24 [.dec true, .lit, .val (.int .i64 l.n), .lit, .dec true, .lit, .lit, .dec true, .lit, .val (.slice A2 l.es.length c2), .lit, .lit, .dec true, .lit, .val (.slice A1 l.ls.length c1), .lit, .lit] (at_ Tryd.f10 [1,1]) [(4, .bool (decide ((l.ls.length : Int) ≤ 8)))]
            ((tv (Light26 l)) = true ∧ cellH h2 ⟨g1, 0, none⟩ = some (.int .i64 l.n) ∧ (decide (l.n ≤ 20)) = true ∧ (decide ((p.length : Int) ≤ 30)) = true ∧ cellH h2 ⟨g1, 2, none⟩ = some (.slice A2 l.es.length c2) ∧ (decide ((l.es.length : Int) ≤ 60)) = true ∧ cellH h2 ⟨g1, 1, none⟩ = some (.slice A1 l.ls.length c1))
            (by as_aux_lemma => kernel_rfl) ⟨(by assumption), (hBg1.at hE2 0 rfl), (by first | assumption | exact decide_eq_true (by first | omega | assumption)), (by first | assumption | exact decide_eq_true (by first | omega | assumption)), (hBg1.at hE2 2 rfl), (by first | assumption | exact decide_eq_true (by first | omega | assumption)), (hBg1.at hE2 1 rfl)⟩ fun s_ => ?_
          refine Run.ret [] (.bool (decide ((l.ls.length : Int) ≤ 8))) (True) Tryd.func10 (by as_aux_lemma => kernel_rfl) (by as_aux_lemma => kernel_rfl) trivial ?_
          by_cases e5 : (l.ls.length : Int) ≤ 8
          · exact ⟨by rw [tv_yes, decide_eq_true e5]; exact ⟨tv_iff.1 e1, e2, by omega, by omega, by omega⟩, E2⟩
          · exact ⟨by rw [tv_no, decide_eq_false e5]; exact fun hh => e5 (by have := hh.2.2.2.2; omega), E2⟩
        · -- at 11
          refine Run.adv 24 [.dec true, .lit, .val (.int .i64 l.n), .lit, .dec true, .lit, .lit, .dec true, .lit, .val (.slice A2 l.es.length c2), .lit, .lit, .dec false, .lit, .lit, .lit] (at_ Tryd.f10 [1,1]) [(4, .bool false)]
            ((tv (Light26 l)) = true ∧ cellH h2 ⟨g1, 0, none⟩ = some (.int .i64 l.n) ∧ (decide (l.n ≤ 20)) = true ∧ (decide ((p.length : Int) ≤ 30)) = true ∧ cellH h2 ⟨g1, 2, none⟩ = some (.slice A2 l.es.length c2) ∧ (decide ((l.es.length : Int) ≤ 60)) = false)
            (by as_aux_lemma => kernel_rfl) ⟨(by assumption), (hBg1.at hE2 0 rfl), (by first | assumption | exact decide_eq_true (by first | omega | assumption)), (by first | assumption | exact decide_eq_true (by first | omega | assumption)), (hBg1.at hE2 2 rfl), (by first | assumption | exact decide_eq_false (by first | omega | assumption))⟩ fun s_ => ?_
          refine Run.ret [] (.bool false) (True) Tryd.func10 (by as_aux_lemma => kernel_rfl) (by as_aux_lemma => kernel_rfl) trivial ?_
          exact ⟨by rw [tv_no]; exact fun hh => e4 (by have := hh.2.2.2.1; omega), E2⟩
      · -- at 11
        refine Run.adv 24 [.dec true, .lit, .val (.int .i64 l.n), .lit, .dec true, .lit, .lit, .dec false, .lit, .lit, .lit, .lit, .lit, .lit, .lit] (at_ Tryd.f10 [1,1]) [(4, .bool false)]
          ((tv (Light26 l)) = true ∧ cellH h2 ⟨g1, 0, none⟩ = some (.int .i64 l.n) ∧ (decide (l.n ≤ 20)) = true ∧ (decide ((p.length : Int) ≤ 30)) = false)
          (by as_aux_lemma => kernel_rfl) ⟨(by assumption), (hBg1.at hE2 0 rfl), (by first | assumption | exact decide_eq_true (by first | omega | assumption)), (by first | assumption | exact decide_eq_false (by first | omega | assumption))⟩ fun s_ => ?_
        refine Run.ret [] (.bool false) (True) Tryd.func10 (by as_aux_lemma => kernel_rfl) (by as_aux_lemma => kernel_rfl) trivial ?_
        exact ⟨by rw [tv_no]; exact fun hh => e3 (by have := hh.2.2.1; omega), E2⟩
    · -- at 11
      refine Run.adv 24 [.dec true, .lit, .val (.int .i64 l.n), .lit, .dec false, .lit, .lit, .lit, .lit, .lit, .lit, .lit, .lit, .lit, .lit] (at_ Tryd.f10 [1,1]) [(4, .bool false)]
        ((tv (Light26 l)) = true ∧ cellH h2 ⟨g1, 0, none⟩ = some (.int .i64 l.n) ∧ (decide (l.n ≤ 20)) = false)
        (by as_aux_lemma => kernel_rfl) ⟨(by assumption), (hBg1.at hE2 0 rfl), (by first | assumption | exact decide_eq_false (by first | omega | assumption))⟩ fun s_ => ?_
      refine Run.ret [] (.bool false) (True) Tryd.func10 (by as_aux_lemma => kernel_rfl) (by as_aux_lemma => kernel_rfl) trivial ?_
      exact ⟨by rw [tv_no]; exact fun hh => e2 hh.2.1, E2⟩
  · have e1' : tv (Light26 l) = false := by simpa using e1
    -- at 11
    refine Run.adv 24 [.dec false, .lit, .lit, .lit, .lit, .lit, .lit, .lit, .lit, .lit, .lit, .lit, .lit, .lit] (at_ Tryd.f10 [1,1]) [(4, .bool false)]
      ((tv (Light26 l)) = false)
      (by as_aux_lemma => kernel_rfl) (by assumption) fun s_ => ?_
    refine Run.ret [] (.bool false) (True) Tryd.func10 (by as_aux_lemma => kernel_rfl) (by as_aux_lemma => kernel_rfl) trivial ?_
    exact ⟨by rw [tv_no]; exact fun hh => e1 (tv_iff.2 hh.1), E2⟩
/-- The plain example's system. -/
def l32 : Lt := ⟨3, [⟨#[97]⟩, ⟨#[98]⟩], [(0, 0, 2), (1, 1, 2)]⟩
theorem may32 : May l32 where
  n1 := by decide
  n2 := by decide
  ls := by
    refine ⟨by decide, fun i h0 h1 => ?_⟩
    have : i = 0 ∨ i = 1 := by
      have : l32.ls.length = 2 := rfl
      omega
    rcases this with rfl | rfl
    · exact ⟨by decide, fun hh => by omega⟩
    · exact ⟨by decide, fun _ => by rw [less_ltS]; decide⟩
  len := by decide
  es := by
    intro i h0 h1
    have : i = 0 ∨ i = 1 := by
      have : l32.es.length = 2 := rfl
      omega
    rcases this with rfl | rfl
    · exact ⟨by unfold EdgeMay; decide, fun hh => by omega⟩
    · exact ⟨by unfold EdgeMay; decide, fun _ => by decide⟩
theorem at32 {h h' : Heap} {g6 g9 : Nat} {t1 t2 : TypeId} (h6 : Blk h g6 #[.string ⟨#[97]⟩, .string ⟨#[98]⟩] t1) (h9 : Blk h' g9 #[.int .i64 0, .int .i64 0, .int .i64 2, .int .i64 1, .int .i64 1, .int .i64 2] t2) (E : Ext h h') : LtAt h' l32 (some ⟨g6, 0, none⟩) 2 (some ⟨g9, 0, none⟩) 2 :=
  ⟨row1_lit ByteArray.empty (xs := l32.ls) (h6.ext E) (by decide), rowK_lit (enc := encE) (k := 3) (fun _ => rfl) (0, 0, 0) (xs := l32.es) h9 (by decide)⟩
theorem ways32 : waysOf l32.es (plainL [0, 0, 5]) ((1 : Nat) : Int) = [(1, 1)] := by rw [waysOf_short (by decide)]; decide
theorem step32 : stepL l32.es [0, 0, 0] = [0, 1, 2] := by rw [stepL_short (by decide)]; decide
theorem stab32 : StableP l32.es [0, 1, 2] := by rw [stable_iff, stepL_short (by decide)]; decide
theorem unst32 : ¬ StableP l32.es [0, 0, 0] := by rw [stable_iff, step32]; decide
theorem Same_yes (A A2 : Option Addr) (c c2 : Nat) (xs ys : List Int) (h : Heap) (hx : Ints h A xs c) (hy : Ints h A2 ys c2) (e : xs = ys) :
    Ct Tryd.prog 20 #[.slice A xs.length c, .slice A2 ys.length c2] h (fun v h' => v = .bool true ∧ h' = h) :=
  (Same_ct A A2 c c2 xs ys h hx hy).mono fun v h' ⟨a, b⟩ => ⟨by rw [a, decide_eq_true e], b⟩
theorem stable_yes (A1 A2 A3 : Option Addr) (c1 c2 c3 : Nat) (l : Lt) (p : List Int) (h : Heap) (hx : LtAt h l A1 c1 A2 c2) (hp : Ints h A3 p c3) (hl : l.ls.length ≤ 100000) (hT : Tab h) (e : Good l p ∧ StableP l.es p) :
    Ct Tryd.prog 18 #[.agg #[.int .i64 l.n, .slice A1 l.ls.length c1, .slice A2 l.es.length c2], .slice A3 p.length c3] h (fun v h' => v = .bool true ∧ Ext h h') :=
  (stable_ct A1 A2 A3 c1 c2 c3 l p h hx hp hl hT).mono fun v h' ⟨a, b⟩ => ⟨by rw [a, tv_yes e], b⟩
theorem stable_no (A1 A2 A3 : Option Addr) (c1 c2 c3 : Nat) (l : Lt) (p : List Int) (h : Heap) (hx : LtAt h l A1 c1 A2 c2) (hp : Ints h A3 p c3) (hl : l.ls.length ≤ 100000) (hT : Tab h) (e : ¬ (Good l p ∧ StableP l.es p)) :
    Ct Tryd.prog 18 #[.agg #[.int .i64 l.n, .slice A1 l.ls.length c1, .slice A2 l.es.length c2], .slice A3 p.length c3] h (fun v h' => v = .bool false ∧ Ext h h') :=
  (stable_ct A1 A2 A3 c1 c2 c3 l p h hx hp hl hT).mono fun v h' ⟨a, b⟩ => ⟨by rw [a, tv_no e], b⟩
theorem awake32_ct (h : Heap) (hT : Tab h) : Ct Tryd.prog 11 #[] h (fun v h' => v = .bool true ∧ Ext h h') := by
  refine Ct.enter (args := []) Tryd.func11 rfl Tryd.ntmps11 (by simp) fun w hw => ?_
  -- at 1080
  refine Run.adv 6 [] (at_ Tryd.f11 [1,0,8,0]) [(0, .bool false)]
    (True)
    (by as_aux_lemma => kernel_rfl) trivial fun s_ => ?_
  refine Run.new #[.string ⟨#[97]⟩, .string ⟨#[98]⟩] 9 (fun g_ => .slice (some ⟨g_, 0, none⟩) 2 2) (some 6) (at_ Tryd.f11 [1,0,8,1]) (by as_aux_lemma => kernel_rfl) fun g6 h6 hng6 hEg6 hBg6 => ?_
  -- at 1083
  refine Run.adv 2 [] (at_ Tryd.f11 [1,0,8,3]) [(0, .bool false), (6, .slice (some ⟨g6, 0, none⟩) 2 2), (7, .agg #[.int .i64 0, .int .i64 0, .int .i64 2]), (8, .agg #[.int .i64 1, .int .i64 1, .int .i64 2])]
    (True)
    (by as_aux_lemma => kernel_rfl) trivial fun s_ => ?_
  refine Run.new #[.int .i64 0, .int .i64 0, .int .i64 2, .int .i64 1, .int .i64 1, .int .i64 2] 54 (fun g_ => .slice (some ⟨g_, 0, none⟩) 2 2) (some 9) (at_ Tryd.f11 [1,0,8,4]) (by as_aux_lemma => kernel_rfl) fun g9 h9 hng9 hEg9 hBg9 => ?_
  -- at 1085
  refine Run.adv 1 [] (at_ Tryd.f11 [1,0,8,5]) [(0, .bool false), (6, .slice (some ⟨g6, 0, none⟩) 2 2), (7, .agg #[.int .i64 0, .int .i64 0, .int .i64 2]), (8, .agg #[.int .i64 1, .int .i64 1, .int .i64 2]), (9, .slice (some ⟨g9, 0, none⟩) 2 2), (10, .agg #[.int .i64 3, .slice (some ⟨g6, 0, none⟩) 2 2, .slice (some ⟨g9, 0, none⟩) 2 2])]
    (True)
    (by as_aux_lemma => kernel_rfl) trivial fun s_ => ?_
  refine Run.new #[.int .i64 0, .slice none 0 0, .slice none 0 0] 25 (fun g_ => .pointer (some ⟨g_, 0, none⟩)) (some 1) (at_ Tryd.f11 [1,0,8,6]) (by as_aux_lemma => kernel_rfl) fun g1 h1 hng1 hEg1 hBg1 => ?_
  refine Run.store g1 0 [.int .i64 3, .slice (some ⟨g6, 0, none⟩) 2 2, .slice (some ⟨g9, 0, none⟩) 2 2] (at_ Tryd.f11 [1,0,8,7]) (by as_aux_lemma => kernel_rfl) (hBg1.ext (Ext.refl _)) (by simp) rfl fun h2 hMh2 hzh2 (hBg1_h2 : Blk h2 g1 #[.int .i64 3, .slice (some ⟨g6, 0, none⟩) 2 2, .slice (some ⟨g9, 0, none⟩) 2 2] 25) => ?_
  have hL := (at32 hBg6 hBg9 hEg9).ext (hMh2.ext_new hEg1 hng1 (Ext.refl _))
  have hE2 := (hMh2.ext_new ((hEg6.trans hEg9).trans hEg1) hng1 (hEg6.trans hEg9))
  -- at 11081
  refine Run.adv 4 [.val (.agg #[.int .i64 3, .slice (some ⟨g6, 0, none⟩) 2 2, .slice (some ⟨g9, 0, none⟩) 2 2])] (at_ Tryd.f11 [1,1,0,8,1]) [(1, .pointer (some ⟨g1, 0, none⟩)), (12, .agg #[.int .i64 3, .slice (some ⟨g6, 0, none⟩) 2 2, .slice (some ⟨g9, 0, none⟩) 2 2])]
    (cellsAt h2 ⟨g1, 0, none⟩ [.int .i64 3, .slice (some ⟨g6, 0, none⟩) 2 2, .slice (some ⟨g9, 0, none⟩) 2 2] 0)
    (by as_aux_lemma => kernel_rfl) (hBg1_h2.all (Ext.refl _)) fun s_ => ?_
  refine Run.new #[.int .i64 0, .int .i64 0, .int .i64 5] 3 (fun g_ => .slice (some ⟨g_, 0, none⟩) 3 3) (some 13) (at_ Tryd.f11 [1,1,0,8,2]) (by as_aux_lemma => kernel_rfl) fun g13 h3 hng13 hEg13 hBg13 => ?_
  -- at 11082
  refine Run.adv 0 [] (at_ Tryd.f11 [1,1,0,8,2]) [(1, .pointer (some ⟨g1, 0, none⟩)), (12, .agg #[.int .i64 3, .slice (some ⟨g6, 0, none⟩) 2 2, .slice (some ⟨g9, 0, none⟩) 2 2]), (13, .slice (some ⟨g13, 0, none⟩) 3 3)]
    (True)
    (by as_aux_lemma => kernel_rfl) trivial fun s_ => ?_
  refine Run.call 12 #[.agg #[.int .i64 3, .slice (some ⟨g6, 0, none⟩) 2 2, .slice (some ⟨g9, 0, none⟩) 2 2], .slice (some ⟨g13, 0, none⟩) 3 3, .int .i64 1] (some 14) (at_ Tryd.f11 [1,1,0,8,3]) (by as_aux_lemma => kernel_rfl) (ofOk_ct _ _ _ 2 2 3 l32 [0, 0, 5] 1 _ (hL.ext hEg13) (ints_lit (xs := [0, 0, 5]) hBg13) may32 rfl (by decide)) ?_
  rintro v h4 ⟨w1, og1, rfl, hO1, hE4⟩
  rw [ways32] at hO1
  obtain ⟨gw, rfl⟩ := hO1.pos (by decide)
  obtain ⟨Aw, cw, rfl⟩ := hO1.slice
  obtain ⟨rfl, _⟩ := hO1.addr
  -- at 111081
  refine Run.adv 9 [.val (.agg #[.int .i64 3, .slice (some ⟨g6, 0, none⟩) 2 2, .slice (some ⟨g9, 0, none⟩) 2 2])] (at_ Tryd.f11 [1,1,1,0,8,1]) [(1, .pointer (some ⟨g1, 0, none⟩)), (2, .slice (some ⟨gw, 0, none⟩) 1 cw), (3, .int .i64 0), (18, .agg #[.int .i64 3, .slice (some ⟨g6, 0, none⟩) 2 2, .slice (some ⟨g9, 0, none⟩) 2 2])]
    (cellsAt h4 ⟨g1, 0, none⟩ [.int .i64 3, .slice (some ⟨g6, 0, none⟩) 2 2, .slice (some ⟨g9, 0, none⟩) 2 2] 0)
    (by as_aux_lemma => kernel_rfl) (hBg1_h2.all (hEg13.trans hE4)) fun s_ => ?_
  refine Run.new #[.int .i64 0, .int .i64 0, .int .i64 0] 3 (fun g_ => .slice (some ⟨g_, 0, none⟩) 3 3) (some 19) (at_ Tryd.f11 [1,1,1,0,8,2]) (by as_aux_lemma => kernel_rfl) fun g19 h5 hng19 hEg19 hBg19 => ?_
  -- at 111082
  refine Run.adv 0 [] (at_ Tryd.f11 [1,1,1,0,8,2]) [(1, .pointer (some ⟨g1, 0, none⟩)), (2, .slice (some ⟨gw, 0, none⟩) 1 cw), (3, .int .i64 0), (18, .agg #[.int .i64 3, .slice (some ⟨g6, 0, none⟩) 2 2, .slice (some ⟨g9, 0, none⟩) 2 2]), (19, .slice (some ⟨g19, 0, none⟩) 3 3)]
    (True)
    (by as_aux_lemma => kernel_rfl) trivial fun s_ => ?_
  have hL5 := hL.ext ((hEg13.trans hE4).trans hEg19)
  refine Run.call 17 #[.agg #[.int .i64 3, .slice (some ⟨g6, 0, none⟩) 2 2, .slice (some ⟨g9, 0, none⟩) 2 2], .slice (some ⟨g19, 0, none⟩) 3 3] (some 20) (at_ Tryd.f11 [1,1,1,0,8,3]) (by as_aux_lemma => kernel_rfl) (stepOk_ct _ _ _ 2 2 3 l32 [0, 0, 0] _ hL5 (ints_lit (xs := [0, 0, 0]) hBg19) may32 rfl (hT.ext ((((hMh2.ext_new ((hEg6.trans hEg9).trans hEg1) hng1 (hEg6.trans hEg9)).trans hEg13).trans hE4).trans hEg19))) ?_
  rintro v h7 ⟨w2, og2, rfl, hO2, hE7, -⟩
  rw [step32] at hO2
  obtain ⟨A4, c4, rfl, hr4⟩ := hO2.row1 (d := 0) (by decide)
  have hO1' := hO1.ext (hEg19.trans hE7)
  -- at 11110820
  refine Run.adv 28 [.lit, .lit, .lit, .lit, .lit, .lit, .val (.agg #[.int .i64 1, .int .i64 1]), .lit, .lit, .lit, .lit, .lit] (at_ Tryd.f11 [1,1,1,1,0,8,20]) [(1, .pointer (some ⟨g1, 0, none⟩)), (2, .slice (some ⟨gw, 0, none⟩) 1 cw), (3, .int .i64 0), (4, .slice A4 3 c4), (5, .int .i64 0), (42, .slice A4 3 c4), (41, .bool true)]
    ((0 ≤ (0 : Int) ∧ (0 : Int) < 1) ∧ cellsAt h7 ⟨gw, 0, none⟩ [.int .i64 1, .int .i64 1] 0)
    (by as_aux_lemma => kernel_rfl) ⟨⟨by omega, by omega⟩, (hO1'.elem encW_len (0, 0) (j := 0) (by decide) rfl)⟩ fun s_ => ?_
  refine Run.new #[.int .i64 0, .int .i64 1, .int .i64 2] 3 (fun g_ => .slice (some ⟨g_, 0, none⟩) 3 3) (some 43) (at_ Tryd.f11 [1,1,1,1,0,8,21]) (by as_aux_lemma => kernel_rfl) fun g43 h8 hng43 hEg43 hBg43 => ?_
  -- at 11110826
  refine Run.adv 5 [.lit, .val (.bool true), .lit, .val (.agg #[.int .i64 3, .slice (some ⟨g6, 0, none⟩) 2 2, .slice (some ⟨g9, 0, none⟩) 2 2]), .lit] (at_ Tryd.f11 [1,1,1,1,0,8,26]) [(1, .pointer (some ⟨g1, 0, none⟩)), (4, .slice A4 3 c4), (41, .bool true), (46, .bool true), (47, .agg #[.int .i64 3, .slice (some ⟨g6, 0, none⟩) 2 2, .slice (some ⟨g9, 0, none⟩) 2 2]), (48, .slice A4 3 c4)]
    ((Ct Tryd.prog 20 #[.slice A4 3 c4, .slice (some ⟨g43, 0, none⟩) 3 3] h8 (fun v_ h_ => v_ = .bool true ∧ h_ = h8)) ∧ cellsAt h8 ⟨g1, 0, none⟩ [.int .i64 3, .slice (some ⟨g6, 0, none⟩) 2 2, .slice (some ⟨g9, 0, none⟩) 2 2] 0)
    (by as_aux_lemma => kernel_rfl) ⟨(Same_yes A4 (some ⟨g43, 0, none⟩) c4 3 [0, 1, 2] [0, 1, 2] _ (hr4.ext hEg43) (ints_lit (xs := [0, 1, 2]) hBg43) rfl), (hBg1_h2.all ((((hEg13.trans hE4).trans hEg19).trans hE7).trans hEg43))⟩ fun s_ => ?_
  refine Run.call 18 #[.agg #[.int .i64 3, .slice (some ⟨g6, 0, none⟩) 2 2, .slice (some ⟨g9, 0, none⟩) 2 2], .slice A4 3 c4] (some 49) (at_ Tryd.f11 [1,1,1,1,0,8,27]) (by as_aux_lemma => kernel_rfl) (stable_yes _ _ _ 2 2 c4 l32 [0, 1, 2] _ (hL5.ext (hE7.trans hEg43)) (hr4.ext hEg43) (by decide) (hT.ext ((((((hMh2.ext_new ((hEg6.trans hEg9).trans hEg1) hng1 (hEg6.trans hEg9)).trans hEg13).trans hE4).trans hEg19).trans hE7).trans hEg43)) ⟨⟨may32, rfl⟩, stab32⟩) ?_
  rintro _ h10 ⟨rfl, hE10⟩
  -- at 11110830
  refine Run.adv 3 [.lit, .val (.agg #[.int .i64 3, .slice (some ⟨g6, 0, none⟩) 2 2, .slice (some ⟨g9, 0, none⟩) 2 2])] (at_ Tryd.f11 [1,1,1,1,0,8,30]) [(1, .pointer (some ⟨g1, 0, none⟩)), (4, .slice A4 3 c4), (51, .bool true), (52, .agg #[.int .i64 3, .slice (some ⟨g6, 0, none⟩) 2 2, .slice (some ⟨g9, 0, none⟩) 2 2])]
    (cellsAt h10 ⟨g1, 0, none⟩ [.int .i64 3, .slice (some ⟨g6, 0, none⟩) 2 2, .slice (some ⟨g9, 0, none⟩) 2 2] 0)
    (by as_aux_lemma => kernel_rfl) (hBg1_h2.all (((((hEg13.trans hE4).trans hEg19).trans hE7).trans hEg43).trans hE10)) fun s_ => ?_
  refine Run.new #[.int .i64 0, .int .i64 0, .int .i64 0] 3 (fun g_ => .slice (some ⟨g_, 0, none⟩) 3 3) (some 53) (at_ Tryd.f11 [1,1,1,1,0,8,31]) (by as_aux_lemma => kernel_rfl) fun g53 h11 hng53 hEg53 hBg53 => ?_
  -- at 11110831
  refine Run.adv 0 [] (at_ Tryd.f11 [1,1,1,1,0,8,31]) [(51, .bool true), (52, .agg #[.int .i64 3, .slice (some ⟨g6, 0, none⟩) 2 2, .slice (some ⟨g9, 0, none⟩) 2 2]), (53, .slice (some ⟨g53, 0, none⟩) 3 3)]
    (True)
    (by as_aux_lemma => kernel_rfl) trivial fun s_ => ?_
  refine Run.call 18 #[.agg #[.int .i64 3, .slice (some ⟨g6, 0, none⟩) 2 2, .slice (some ⟨g9, 0, none⟩) 2 2], .slice (some ⟨g53, 0, none⟩) 3 3] (some 54) (at_ Tryd.f11 [1,1,1,1,0,8,32]) (by as_aux_lemma => kernel_rfl) (stable_no _ _ _ 2 2 3 l32 [0, 0, 0] _ (hL5.ext (((hE7.trans hEg43).trans hE10).trans hEg53)) (ints_lit (xs := [0, 0, 0]) hBg53) (by decide) (hT.ext ((((((((hMh2.ext_new ((hEg6.trans hEg9).trans hEg1) hng1 (hEg6.trans hEg9)).trans hEg13).trans hE4).trans hEg19).trans hE7).trans hEg43).trans hE10).trans hEg53)) (fun hh => unst32 hh.2)) ?_
  rintro _ h12 ⟨rfl, hE12⟩
  -- at 11111
  refine Run.adv 4 [.lit] (at_ Tryd.f11 [1,1,1,1,1]) [(0, .bool true)]
    (True)
    (by as_aux_lemma => kernel_rfl) trivial fun s_ => ?_
  refine Run.ret [] (.bool true) (True) Tryd.func11 (by as_aux_lemma => kernel_rfl) (by as_aux_lemma => kernel_rfl) trivial ?_
  exact ⟨rfl, (((((((((hMh2.ext_new ((hEg6.trans hEg9).trans hEg1) hng1 (hEg6.trans hEg9)).trans hEg13).trans hE4).trans hEg19).trans hE7).trans hEg43).trans hE10).trans hEg53).trans hE12)⟩
end Go.Proofs.YtbajgbkkbabmlaaDoor
