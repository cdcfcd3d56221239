/- Package lts, walked: comparing edges, checking systems. -/
import Derived.Test.YtbajgbkkbabmlaaGreatDoorProg
import Derived.Test.YtbajgbkkbabmlaaGreatDoorPp
set_option linter.unusedVariables false
namespace Go.Proofs.YtbajgbkkbabmlaaGreatDoor
open Go.Vc

def cmpI (a b : Int) : Int := if a < b then -1 else if b < a then 1 else 0

theorem isNaN_ct {d : Bool} (a : Int) (h : Heap) : CtB d Tryz.prog 119 #[.int .i64 a] h (fun v h' => v = .bool false ∧ h' = h) := by
  refine Ct.enter (args := [.int .i64 a]) Tryz.func119 rfl Tryz.ntmps119 (by simp) fun w hw => ?_
  -- at 11
  refine Run.adv 11 [] (at_ Tryz.f119 [1,1]) [(2, .bool (a != a))]
    (True)
    (by as_aux_lemma => kernel_rfl) trivial fun s_ => ?_
  refine Run.ret [] (.bool (a != a)) (True) Tryz.func119 (by as_aux_lemma => kernel_rfl) (by as_aux_lemma => kernel_rfl) trivial ?_
  exact ⟨by simp, rfl⟩
theorem cmpI_ct {d : Bool} (a b : Int) (h : Heap) : CtB d Tryz.prog 101 #[.int .i64 a, .int .i64 b] h (fun v h' => v = .int .i64 (cmpI a b) ∧ h' = h) := by
  refine Ct.enter (args := [.int .i64 a, .int .i64 b]) Tryz.func101 rfl Tryz.ntmps101 (by simp) fun w hw => ?_
  unfold cmpI
  by_cases e1 : a < b
  · -- at 111110141
    refine Run.adv 42 [.val (.bool false), .val (.bool false), .lit, .lit, .dec true] (at_ Tryz.f101 [1,1,1,1,1,0,1,4,1]) [(0, .int .i64 a), (1, .int .i64 b), (4, .int .i64 (-1)), (5, .bool false), (6, .bool false), (7, .int .i64 a), (8, .bool false), (9, .int .i64 b), (10, .bool false), (11, .bool false), (13, .bool false), (14, .int .i64 a), (15, .int .i64 b), (16, .bool true)]
      ((CtB d Tryz.prog 119 #[.int .i64 a] h (fun v_ h_ => v_ = .bool false ∧ h_ = h)) ∧ (CtB d Tryz.prog 119 #[.int .i64 b] h (fun v_ h_ => v_ = .bool false ∧ h_ = h)) ∧ (decide (a < b)) = true)
      (by as_aux_lemma => kernel_rfl) ⟨(isNaN_ct _ _), (isNaN_ct _ _), (by first | assumption | exact decide_eq_true (by first | omega | assumption))⟩ fun s_ => ?_
    refine Run.ret [] (.int .i64 (-1)) (True) Tryz.func101 (by as_aux_lemma => kernel_rfl) (by as_aux_lemma => kernel_rfl) trivial ?_
    exact ⟨by rw [if_pos e1], rfl⟩
  by_cases e2 : b < a
  · -- at 1111110141
    refine Run.adv 51 [.val (.bool false), .val (.bool false), .lit, .lit, .dec false, .dec true] (at_ Tryz.f101 [1,1,1,1,1,1,0,1,4,1]) [(0, .int .i64 a), (1, .int .i64 b), (4, .int .i64 1), (5, .bool false), (6, .bool false), (7, .int .i64 a), (8, .bool false), (9, .int .i64 b), (10, .bool false), (11, .bool false), (13, .bool false), (14, .int .i64 a), (15, .int .i64 b), (16, .bool false), (17, .int .i64 a), (18, .int .i64 b), (19, .bool true)]
      ((CtB d Tryz.prog 119 #[.int .i64 a] h (fun v_ h_ => v_ = .bool false ∧ h_ = h)) ∧ (CtB d Tryz.prog 119 #[.int .i64 b] h (fun v_ h_ => v_ = .bool false ∧ h_ = h)) ∧ (decide (a < b)) = false ∧ (decide (a > b)) = true)
      (by as_aux_lemma => kernel_rfl) ⟨(isNaN_ct _ _), (isNaN_ct _ _), (by first | assumption | exact decide_eq_false (by first | omega | assumption)), (by first | assumption | exact decide_eq_true (by first | omega | assumption))⟩ fun s_ => ?_
    refine Run.ret [] (.int .i64 1) (True) Tryz.func101 (by as_aux_lemma => kernel_rfl) (by as_aux_lemma => kernel_rfl) trivial ?_
    exact ⟨by rw [if_neg e1, if_pos e2], rfl⟩
  -- at 11111111
  refine Run.adv 52 [.val (.bool false), .val (.bool false), .lit, .lit, .dec false, .dec false] (at_ Tryz.f101 [1,1,1,1,1,1,1,1]) [(0, .int .i64 a), (1, .int .i64 b), (4, .int .i64 0), (5, .bool false), (6, .bool false), (7, .int .i64 a), (8, .bool false), (9, .int .i64 b), (10, .bool false), (11, .bool false), (13, .bool false), (14, .int .i64 a), (15, .int .i64 b), (16, .bool false), (17, .int .i64 a), (18, .int .i64 b), (19, .bool false)]
    ((CtB d Tryz.prog 119 #[.int .i64 a] h (fun v_ h_ => v_ = .bool false ∧ h_ = h)) ∧ (CtB d Tryz.prog 119 #[.int .i64 b] h (fun v_ h_ => v_ = .bool false ∧ h_ = h)) ∧ (decide (a < b)) = false ∧ (decide (a > b)) = false)
    (by as_aux_lemma => kernel_rfl) ⟨(isNaN_ct _ _), (isNaN_ct _ _), (by first | assumption | exact decide_eq_false (by first | omega | assumption)), (by first | assumption | exact decide_eq_false (by first | omega | assumption))⟩ fun s_ => ?_
  refine Run.ret [] (.int .i64 0) (True) Tryz.func101 (by as_aux_lemma => kernel_rfl) (by as_aux_lemma => kernel_rfl) trivial ?_
  exact ⟨by rw [if_neg e1, if_neg e2], rfl⟩

/-- The first that is not 0. -/
def orI : List Int → Int
  | [] => 0
  | x :: r => if x ≠ 0 then x else orI r
theorem orI_at : ∀ (xs : List Int) (i : Nat), i < xs.length → rd xs i ≠ 0 → (∀ j : Nat, j < i → rd xs j = 0) → orI xs = rd xs i
  | [], i, h, _, _ => by simp at h
  | x :: r, 0, _, h1, _ => by
    have : rd (x :: r) (0 : Nat) = x := rfl
    rw [this] at h1 ⊢
    simp [orI, h1]
  | x :: r, i + 1, h, h1, h2 => by
    have hx : x = 0 := h2 0 (by omega)
    have e : ∀ j : Nat, rd (x :: r) ((j + 1 : Nat) : Int) = rd r j := fun j => by unfold rd; rw [Int.toNat_natCast, Int.toNat_natCast]; rfl
    rw [e] at h1 ⊢
    simp only [orI, hx, ne_eq, not_true_eq_false, if_false]
    exact orI_at r i (by simpa using h) h1 (fun j hj => by rw [← e]; exact h2 (j + 1) (by omega))
theorem orI_no : ∀ (xs : List Int), (∀ j : Nat, j < xs.length → rd xs j = 0) → orI xs = 0
  | [], _ => rfl
  | x :: r, h => by
    have hx : x = 0 := h 0 (by simp)
    have e : ∀ j : Nat, rd (x :: r) ((j + 1 : Nat) : Int) = rd r j := fun j => by unfold rd; rw [Int.toNat_natCast, Int.toNat_natCast]; rfl
    simp only [orI, hx, ne_eq, not_true_eq_false, if_false]
    exact orI_no r fun j hj => by rw [← e]; exact h (j + 1) (by simpa using hj)
theorem orI_ct {d : Bool} (A : Option Addr) (c : Nat) (xs : List Int) (h : Heap) (hx : Ints h A xs c) (hl : xs.length ≤ 1000000) : CtB d Tryz.prog 118 #[.slice A xs.length c] h (fun v h' => v = .int .i64 (orI xs) ∧ h' = h) := by
  refine Ct.enter (args := [.slice A xs.length c]) Tryz.func118 rfl Tryz.ntmps118 (by simp) fun w hw => ?_
  -- at 11012
  refine Run.adv 16 [] (at_ Tryz.f118 [1,1,0,1,2]) [(3, .int .i64 0), (6, .slice A xs.length c), (7, .int .i64 (xs.length : Int)), (8, .int .i64 0)]
    (True)
    (by as_aux_lemma => kernel_rfl) trivial fun s_ => ?_
  refine Run.loop (at_ Tryz.f118 [1,1,0,1,2,3]) (at_ Tryz.f118 [1,1,0,1,2,7]) (fun i : Nat => [(3, .int .i64 0), (6, .slice A xs.length c), (7, .int .i64 (xs.length : Int)), (8, .int .i64 (i : Int))])
    (fun i h' => h' = h ∧ i ≤ xs.length ∧ ∀ j : Nat, j < i → rd xs j = 0) (fun i => xs.length - i) 0 (by as_aux_lemma => kernel_rfl) rfl ?_ ?_
  · exact ⟨rfl, Nat.zero_le _, fun j hj => by omega⟩
  rintro i s h' ⟨rfl, hi, hI⟩ again
  by_cases hlt : i < xs.length
  · obtain ⟨b, off, rfl, hp⟩ := hx.open_ (by omega)
    by_cases e1 : rd xs i = 0
    · -- at 110127
      refine Run.adv 28 [.dec true, .val (.int .i64 (rd xs (i : Int))), .dec false] (at_ Tryz.f118 [1,1,0,1,2,7]) [(3, .int .i64 0), (6, .slice (some ⟨b, off, none⟩) xs.length c), (7, .int .i64 (xs.length : Int)), (8, .int .i64 ((i + 1 : Nat) : Int))]
        ((decide ((i : Int) < (xs.length : Int))) = true ∧ (0 ≤ (i : Int) ∧ (i : Int) < (xs.length : Int)) ∧ cellH h' ⟨b, off + (i : Int).toNat, none⟩ = some (.int .i64 (rd xs (i : Int))) ∧ ((rd xs (i : Int)) != 0) = false ∧ (-9223372036854775808 ≤ (i : Int) + 1 ∧ (i : Int) + 1 ≤ 9223372036854775807))
        (by as_aux_lemma => kernel_rfl) ⟨(by first | assumption | exact decide_eq_true (by first | omega | assumption)), ⟨by omega, by omega⟩, (hp _ (Ext.refl _) (i : Int) (by omega) (by omega)), (bne_eq_false_iff_eq.2 (by first | omega | assumption)), ⟨by omega, by omega⟩⟩ fun s_ => ?_
      refine again (i + 1) _ _ ⟨rfl, by omega, fun j hj => ?_⟩ (by omega)
      rcases Nat.lt_succ_iff_lt_or_eq.1 hj with hj | rfl
      · exact hI j hj
      · exact e1
    · -- at 11012311021141
      refine Run.adv 27 [.dec true, .val (.int .i64 (rd xs (i : Int))), .dec true] (at_ Tryz.f118 [1,1,0,1,2,3,1,1,0,2,1,1,4,1]) [(2, .int .i64 (rd xs (i : Int)))]
        ((decide ((i : Int) < (xs.length : Int))) = true ∧ (0 ≤ (i : Int) ∧ (i : Int) < (xs.length : Int)) ∧ cellH h' ⟨b, off + (i : Int).toNat, none⟩ = some (.int .i64 (rd xs (i : Int))) ∧ ((rd xs (i : Int)) != 0) = true)
        (by as_aux_lemma => kernel_rfl) ⟨(by first | assumption | exact decide_eq_true (by first | omega | assumption)), ⟨by omega, by omega⟩, (hp _ (Ext.refl _) (i : Int) (by omega) (by omega)), (bne_iff_ne.2 (by first | omega | assumption))⟩ fun s_ => ?_
      refine Run.ret [] (.int .i64 (rd xs (i : Int))) (True) Tryz.func118 (by as_aux_lemma => kernel_rfl) (by as_aux_lemma => kernel_rfl) trivial ?_
      exact ⟨by rw [orI_at xs i hlt e1 hI], rfl⟩
  · -- at 1111
    refine Run.adv 12 [.dec false] (at_ Tryz.f118 [1,1,1,1]) [(2, .int .i64 0)]
      ((decide ((i : Int) < (xs.length : Int))) = false)
      (by as_aux_lemma => kernel_rfl) (by first | assumption | exact decide_eq_false (by first | omega | assumption)) fun s_ => ?_
    refine Run.ret [] (.int .i64 0) (True) Tryz.func118 (by as_aux_lemma => kernel_rfl) (by as_aux_lemma => kernel_rfl) trivial ?_
    exact ⟨by rw [orI_no xs (fun j hj => hI j (by omega))], rfl⟩

def cmpE (a b : Ed) : Int := orI [cmpI a.1 b.1, cmpI a.2.1 b.2.1, cmpI a.2.2 b.2.2]
theorem cmpE_ct {d : Bool} (a b : Ed) (h : Heap) : CtB d Tryz.prog 99 #[.agg #[.int .i64 a.1, .int .i64 a.2.1, .int .i64 a.2.2], .agg #[.int .i64 b.1, .int .i64 b.2.1, .int .i64 b.2.2]] h
    (fun v h' => v = .int .i64 (cmpE a b) ∧ Ext h h') := by
  refine Ct.enter (args := [.agg #[.int .i64 a.1, .int .i64 a.2.1, .int .i64 a.2.2], .agg #[.int .i64 b.1, .int .i64 b.2.1, .int .i64 b.2.2]]) Tryz.func99 rfl Tryz.ntmps99 (by simp) fun w hw => ?_
  -- at 080
  refine Run.adv 2 [] (at_ Tryz.f99 [0,8,0]) [(0, .agg #[.int .i64 a.1, .int .i64 a.2.1, .int .i64 a.2.2]), (1, .agg #[.int .i64 b.1, .int .i64 b.2.1, .int .i64 b.2.2])]
    (True)
    (by as_aux_lemma => kernel_rfl) trivial fun s_ => ?_
  refine Run.new #[.int .i64 a.1, .int .i64 a.2.1, .int .i64 a.2.2] 64 (fun g_ => .pointer (some ⟨g_, 0, none⟩)) (some 2) (at_ Tryz.f99 [0,8,1]) (by as_aux_lemma => kernel_rfl) fun g1 h1 hng1 hEg1 hBg1 => ?_
  refine Run.new #[.int .i64 b.1, .int .i64 b.2.1, .int .i64 b.2.2] 64 (fun g_ => .pointer (some ⟨g_, 0, none⟩)) (some 3) (at_ Tryz.f99 [0,8,2]) (by as_aux_lemma => kernel_rfl) fun g2 h2 hng2 hEg2 hBg2 => ?_
  -- at 10
  refine Run.adv 3 [] (at_ Tryz.f99 [1,0]) [(2, .pointer (some ⟨g1, 0, none⟩)), (3, .pointer (some ⟨g2, 0, none⟩))]
    (True)
    (by as_aux_lemma => kernel_rfl) trivial fun s_ => ?_
  refine Run.any (opsAt (at_ Tryz.f99 [1,0])) (at_ Tryz.f99 [1,1]) (fun H => Mod none h2 H) [0, 1, 2, 3, 5, 6, 7, 8, 10, 11, 12, 13, 17] [0, 1, 2, 3, 5, 6, 7, 8, 10, 11, 12, 13] [.val (.int .i64 a.1), .val (.int .i64 b.1), .val (.int .i64 a.2.1), .val (.int .i64 b.2.1), .val (.int .i64 a.2.2), .val (.int .i64 b.2.2)] #[true, true, true, true, false, true, true, true, true, false, true, true, true, true, false, false, false, false] [(2, .pointer (some ⟨g1, 0, none⟩)), (3, .pointer (some ⟨g2, 0, none⟩)), (5, .pointer (some ⟨g1, 0, none⟩)), (6, .int .i64 a.1), (7, .pointer (some ⟨g2, 0, none⟩)), (8, .int .i64 b.1), (10, .pointer (some ⟨g1, 1, none⟩)), (11, .int .i64 a.2.1), (12, .pointer (some ⟨g2, 1, none⟩)), (13, .int .i64 b.2.1), (15, .pointer (some ⟨g1, 2, none⟩)), (16, .int .i64 a.2.2), (17, .pointer (some ⟨g2, 2, none⟩)), (18, .int .i64 b.2.2)]
    (fun H => cellH H ⟨g1, 0, none⟩ = some (.int .i64 a.1) ∧ cellH H ⟨g2, 0, none⟩ = some (.int .i64 b.1) ∧ cellH H ⟨g1, 1, none⟩ = some (.int .i64 a.2.1) ∧ cellH H ⟨g2, 1, none⟩ = some (.int .i64 b.2.1) ∧ cellH H ⟨g1, 2, none⟩ = some (.int .i64 a.2.2) ∧ cellH H ⟨g2, 2, none⟩ = some (.int .i64 b.2.2)) 6 (by as_aux_lemma => kernel_rfl) (by as_aux_lemma => kernel_rfl) ((Ext.refl _).mod _)
    (by as_aux_lemma => kernel_rfl) (fun H hC => ⟨(hBg1.at (hEg2.trans hC.none_ext) 0 rfl), (hBg2.at ((Ext.refl _).trans hC.none_ext) 0 rfl), (hBg1.at (hEg2.trans hC.none_ext) 1 rfl), (hBg2.at ((Ext.refl _).trans hC.none_ext) 1 rfl), (hBg1.at (hEg2.trans hC.none_ext) 2 rfl), (hBg2.at ((Ext.refl _).trans hC.none_ext) 2 rfl)⟩) fun s_ => ?_
  refine RunA.call 5 101 #[.int .i64 a.1, .int .i64 b.1] (some 9) false #[true, true, true, true, true, true, true, true, true, false, true, true, true, true, false, false, false, false] (by as_aux_lemma => kernel_rfl) (cmpI_ct _ _ _) ?_
  rintro _ _ ⟨rfl, rfl⟩
  refine ⟨fun _ => ((Ext.refl _).mod _), ?_⟩
  refine RunA.call 4 101 #[.int .i64 a.2.1, .int .i64 b.2.1] (some 14) false #[true, true, true, true, true, true, true, true, true, true, true, true, true, true, false, false, false, false] (by as_aux_lemma => kernel_rfl) (cmpI_ct _ _ _) ?_
  rintro _ _ ⟨rfl, rfl⟩
  refine ⟨fun _ => ((Ext.refl _).mod _), ?_⟩
  refine RunA.call 3 101 #[.int .i64 a.2.2, .int .i64 b.2.2] (some 19) false #[true, true, true, true, true, true, true, true, true, true, true, true, true, true, true, false, false, false] (by as_aux_lemma => kernel_rfl) (cmpI_ct _ _ _) ?_
  rintro _ _ ⟨rfl, rfl⟩
  refine ⟨fun _ => ((Ext.refl _).mod _), ?_⟩
  refine RunA.new 2 #[.int .i64 (cmpI a.1 b.1), .int .i64 (cmpI a.2.1 b.2.1), .int .i64 (cmpI a.2.2 b.2.2)] 3 (fun g_ => .slice (some ⟨g_, 0, none⟩) 3 3) (some 20) false #[true, true, true, true, true, true, true, true, true, true, true, true, true, true, true, true, false, false] (by as_aux_lemma => kernel_rfl) fun g3 h3 hng3 hEg3 hBg3 => ⟨fun _ => (((Ext.refl _).mod _).trans (hEg3.mod _)), ?_⟩
  refine RunA.call 1 118 #[.slice (some ⟨g3, 0, none⟩) 3 3] (some 21) false #[true, true, true, true, true, true, true, true, true, true, true, true, true, true, true, true, true, false] (by as_aux_lemma => kernel_rfl) (orI_ct _ 3 [cmpI a.1 b.1, cmpI a.2.1 b.2.1, cmpI a.2.2 b.2.2] _ (ints_lit hBg3) (by simp)) ?_
  rintro _ _ ⟨rfl, rfl⟩
  refine ⟨fun _ => (((Ext.refl _).mod _).trans (hEg3.mod _)), ?_⟩
  refine RunA.adv [17] [] #[true, true, true, true, true, true, true, true, true, true, true, true, true, true, true, true, true, true] [(2, .pointer (some ⟨g1, 0, none⟩)), (3, .pointer (some ⟨g2, 0, none⟩)), (4, .int .i64 (cmpE a b)), (5, .pointer (some ⟨g1, 0, none⟩)), (6, .int .i64 a.1), (7, .pointer (some ⟨g2, 0, none⟩)), (8, .int .i64 b.1), (9, .int .i64 (cmpI a.1 b.1)), (10, .pointer (some ⟨g1, 1, none⟩)), (11, .int .i64 a.2.1), (12, .pointer (some ⟨g2, 1, none⟩)), (13, .int .i64 b.2.1), (14, .int .i64 (cmpI a.2.1 b.2.1)), (15, .pointer (some ⟨g1, 2, none⟩)), (16, .int .i64 a.2.2), (17, .pointer (some ⟨g2, 2, none⟩)), (18, .int .i64 b.2.2), (19, .int .i64 (cmpI a.2.2 b.2.2)), (20, .slice (some ⟨g3, 0, none⟩) 3 3), (21, .int .i64 (cmpE a b))]
    (fun H => True) 0 (by as_aux_lemma => kernel_rfl) (((Ext.refl _).mod _).trans (hEg3.mod _))
    (by as_aux_lemma => kernel_rfl) (fun H hC => trivial) fun s_ => ?_
  refine RunA.done [(2, .pointer (some ⟨g1, 0, none⟩)), (3, .pointer (some ⟨g2, 0, none⟩)), (4, .int .i64 (cmpE a b)), (5, .pointer (some ⟨g1, 0, none⟩)), (6, .int .i64 a.1), (7, .pointer (some ⟨g2, 0, none⟩)), (8, .int .i64 b.1), (9, .int .i64 (cmpI a.1 b.1)), (10, .pointer (some ⟨g1, 1, none⟩)), (11, .int .i64 a.2.1), (12, .pointer (some ⟨g2, 1, none⟩)), (13, .int .i64 b.2.1), (14, .int .i64 (cmpI a.2.1 b.2.1)), (15, .pointer (some ⟨g1, 2, none⟩)), (16, .int .i64 a.2.2), (17, .pointer (some ⟨g2, 2, none⟩)), (18, .int .i64 b.2.2), (19, .int .i64 (cmpI a.2.2 b.2.2)), (20, .slice (some ⟨g3, 0, none⟩) 3 3), (21, .int .i64 (cmpE a b))] (by as_aux_lemma => kernel_rfl) (by as_aux_lemma => kernel_rfl) fun s_ => ?_
  refine Run.ret [] (.int .i64 (cmpE a b)) (True) Tryz.func99 (by as_aux_lemma => kernel_rfl) (by as_aux_lemma => kernel_rfl) trivial ?_
  exact ⟨rfl, ((hEg1.trans hEg2).trans hEg3)⟩
end Go.Proofs.YtbajgbkkbabmlaaGreatDoor
