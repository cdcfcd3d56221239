/- The reference's replies; replies keep what is never apart. -/
import Derived.Test.YtbajgbkkbabmlaaGreatDoorProg
import Derived.Test.YtbajgbkkbabmlaaGreatDoorO6
set_option linter.unusedVariables false
namespace Go.Proofs.YtbajgbkkbabmlaaGreatDoor
open Go.Vc

theorem eq3 (a b c x y z : Int) : ((a == x) && ((b == y) && ((c == z) && true))) = decide (a = x ∧ b = y ∧ c = z) := by
  by_cases h1 : a = x <;> by_cases h2 : b = y <;> by_cases h3 : c = z <;> simp [h1, h2, h3]
theorem Has_ct (A1 A2 : Option Addr) (c1 c2 : Nat) (l : Lt) (x lb to : Int) (h : Heap) (hx : LtAt h l A1 c1 A2 c2) (hl : l.es.length ≤ 1000000) :
    Ct Tryz.prog 29 #[.agg #[.int .i64 l.n, .slice A1 l.ls.length c1, .slice A2 l.es.length c2], .int .i64 x, .int .i64 lb, .int .i64 to] h (fun v h' => v = .bool (tv ((x, lb, to) ∈ l.es)) ∧ Ext h h') := by
  refine Ct.enter (args := [.agg #[.int .i64 l.n, .slice A1 l.ls.length c1, .slice A2 l.es.length c2], .int .i64 x, .int .i64 lb, .int .i64 to]) Tryz.func29 rfl Tryz.ntmps29 (by simp) fun w hw => ?_
  -- at 080
  refine Run.adv 2 [] (at_ Tryz.f29 [0,8,0]) [(0, .agg #[.int .i64 l.n, .slice A1 l.ls.length c1, .slice A2 l.es.length c2]), (1, .int .i64 x), (2, .int .i64 lb), (3, .int .i64 to)]
    (True)
    (by as_aux_lemma => kernel_rfl) trivial fun s_ => ?_
  refine Run.new #[.int .i64 l.n, .slice A1 l.ls.length c1, .slice A2 l.es.length c2] 25 (fun g_ => .pointer (some ⟨g_, 0, none⟩)) (some 4) (at_ Tryz.f29 [0,8,1]) (by as_aux_lemma => kernel_rfl) fun g1 h1 hng1 hEg1 hBg1 => ?_
  -- at 1012
  refine Run.adv 8 [] (at_ Tryz.f29 [1,0,1,2]) [(1, .int .i64 x), (2, .int .i64 lb), (3, .int .i64 to), (4, .pointer (some ⟨g1, 0, none⟩)), (9, .int .i64 0)]
    (True)
    (by as_aux_lemma => kernel_rfl) trivial fun s_ => ?_
  refine Run.loop (at_ Tryz.f29 [1,0,1,2,3]) (at_ Tryz.f29 [1,0,1,2,7]) (fun i : Nat => [(1, .int .i64 x), (2, .int .i64 lb), (3, .int .i64 to), (4, .pointer (some ⟨g1, 0, none⟩)), (9, .int .i64 (i : Int))])
    (fun i h' => h' = h1 ∧ i ≤ l.es.length ∧ ∀ j : Nat, j < i → ed l.es j ≠ (x, lb, to)) (fun i => l.es.length - i) 0 (by as_aux_lemma => kernel_rfl) rfl ?_ ?_
  · exact ⟨rfl, Nat.zero_le _, fun j hj => by omega⟩
  rintro i s_ h' ⟨rfl, hi, hI⟩ again
  by_cases hlt : i < l.es.length
  · obtain ⟨b, off, rfl, hp⟩ := hx.es.open_ (by omega)
    have hpe := hp _ hEg1 (i : Int) (by omega) (by omega)
    rw [show l.es.getD (i : Int).toNat (0, 0, 0) = ed l.es (i : Int) from rfl] at hpe
    have hmem : ed l.es (i : Int) ∈ l.es := by rw [ed_get _ _ hlt]; exact List.getElem_mem _
    generalize hed : ed l.es (i : Int) = e at hpe hmem
    by_cases e1 : e.1 = x ∧ e.2.1 = lb ∧ e.2.2 = to
    · -- at 10123102141
      refine Run.adv 31 [.val (.slice (some ⟨b, off, none⟩) l.es.length c2), .dec true, .val (.slice (some ⟨b, off, none⟩) l.es.length c2), .val (.agg #[.int .i64 e.1, .int .i64 e.2.1, .int .i64 e.2.2]), .dec true] (at_ Tryz.f29 [1,0,1,2,3,1,0,2,1,4,1]) [(8, .bool true)]
        (cellH h' ⟨g1, 2, none⟩ = some (.slice (some ⟨b, off, none⟩) l.es.length c2) ∧ (decide ((i : Int) < (l.es.length : Int))) = true ∧ cellH h' ⟨g1, 2, none⟩ = some (.slice (some ⟨b, off, none⟩) l.es.length c2) ∧ (0 ≤ (i : Int) ∧ (i : Int) < (l.es.length : Int)) ∧ cellsAt h' ⟨b, off + (i : Int).toNat * 3, none⟩ [.int .i64 e.1, .int .i64 e.2.1, .int .i64 e.2.2] 0 ∧ ((e.1 == x) && ((e.2.1 == lb) && ((e.2.2 == to) && true))) = true)
        (by as_aux_lemma => kernel_rfl) ⟨(hBg1.at (Ext.refl _) 2 rfl), (by first | assumption | exact decide_eq_true (by first | omega | assumption)), (hBg1.at (Ext.refl _) 2 rfl), ⟨by omega, by omega⟩, (by exact hpe), (by rw [eq3]; exact decide_eq_true e1)⟩ fun s_ => ?_
      refine Run.ret [] (.bool true) (True) Tryz.func29 (by as_aux_lemma => kernel_rfl) (by as_aux_lemma => kernel_rfl) trivial ?_
      refine ⟨?_, hEg1⟩
      rw [tv_yes]
      rw [show e = (x, lb, to) from by rw [← e1.1, ← e1.2.1, ← e1.2.2]] at hmem
      exact hmem
    · -- at 10127
      refine Run.adv 34 [.val (.slice (some ⟨b, off, none⟩) l.es.length c2), .dec true, .val (.slice (some ⟨b, off, none⟩) l.es.length c2), .val (.agg #[.int .i64 e.1, .int .i64 e.2.1, .int .i64 e.2.2]), .dec false] (at_ Tryz.f29 [1,0,1,2,7]) [(1, .int .i64 x), (2, .int .i64 lb), (3, .int .i64 to), (4, .pointer (some ⟨g1, 0, none⟩)), (9, .int .i64 ((i + 1 : Nat) : Int))]
        (cellH h' ⟨g1, 2, none⟩ = some (.slice (some ⟨b, off, none⟩) l.es.length c2) ∧ (decide ((i : Int) < (l.es.length : Int))) = true ∧ cellH h' ⟨g1, 2, none⟩ = some (.slice (some ⟨b, off, none⟩) l.es.length c2) ∧ (0 ≤ (i : Int) ∧ (i : Int) < (l.es.length : Int)) ∧ cellsAt h' ⟨b, off + (i : Int).toNat * 3, none⟩ [.int .i64 e.1, .int .i64 e.2.1, .int .i64 e.2.2] 0 ∧ ((e.1 == x) && ((e.2.1 == lb) && ((e.2.2 == to) && true))) = false ∧ (-9223372036854775808 ≤ (i : Int) + 1 ∧ (i : Int) + 1 ≤ 9223372036854775807))
        (by as_aux_lemma => kernel_rfl) ⟨(hBg1.at (Ext.refl _) 2 rfl), (by first | assumption | exact decide_eq_true (by first | omega | assumption)), (hBg1.at (Ext.refl _) 2 rfl), ⟨by omega, by omega⟩, (by exact hpe), (by rw [eq3]; exact decide_eq_false e1), ⟨by omega, by omega⟩⟩ fun s_ => ?_
      refine again (i + 1) _ _ ⟨rfl, by omega, fun j hj => ?_⟩ (by omega)
      by_cases e3 : j = i
      · subst e3
        rw [hed]
        exact fun hh => e1 (by rw [hh]; exact ⟨rfl, rfl, rfl⟩)
      · exact hI j (by omega)
  · -- at 111
    refine Run.adv 15 [.val (.slice A2 l.es.length c2), .dec false] (at_ Tryz.f29 [1,1,1]) [(8, .bool false)]
      (cellH h' ⟨g1, 2, none⟩ = some (.slice A2 l.es.length c2) ∧ (decide ((i : Int) < (l.es.length : Int))) = false)
      (by as_aux_lemma => kernel_rfl) ⟨(hBg1.at (Ext.refl _) 2 rfl), (by first | assumption | exact decide_eq_false (by first | omega | assumption))⟩ fun s_ => ?_
    refine Run.ret [] (.bool false) (True) Tryz.func29 (by as_aux_lemma => kernel_rfl) (by as_aux_lemma => kernel_rfl) trivial ?_
    refine ⟨?_, hEg1⟩
    rw [tv_no]
    intro hmem
    obtain ⟨j, hj, h3⟩ := List.mem_iff_getElem.1 hmem
    exact hI j (by omega) (by rw [ed_get _ _ hj, h3])
theorem refReply_ct (A1 A2 A : Option Addr) (c1 c2 c n : Nat) (l : Lt) (xss : List (List Int)) (t lb to : Int) (h : Heap) (hx : LtAt h l A1 c1 A2 c2) (hr : Rows2 h A xss c) (hm : May l) (hn : l.n = (n : Int))
    (hrl : ∀ k : Nat, k < xss.length → (rd2 xss k).length = n) (hto : 0 ≤ to ∧ to < n) :
    Ct Tryz.prog 30 #[.agg #[.int .i64 l.n, .slice A1 l.ls.length c1, .slice A2 l.es.length c2], .slice A xss.length c, .int .i64 t, .int .i64 lb, .int .i64 to] h (fun v h' => v = .int .i64 (bestL xss to (succL l.es t lb)) ∧ Ext h h') := by
  have hlen := hm.len
  have hsl := succL_len l.es t lb
  have hxl := hr.len
  refine Ct.enter (args := [.agg #[.int .i64 l.n, .slice A1 l.ls.length c1, .slice A2 l.es.length c2], .slice A xss.length c, .int .i64 t, .int .i64 lb, .int .i64 to]) Tryz.func30 rfl Tryz.ntmps30 (by simp) fun w hw => ?_
  -- at 080
  refine Run.adv 2 [] (at_ Tryz.f30 [0,8,0]) [(0, .agg #[.int .i64 l.n, .slice A1 l.ls.length c1, .slice A2 l.es.length c2]), (1, .slice A xss.length c), (2, .int .i64 t), (3, .int .i64 lb), (4, .int .i64 to)]
    (True)
    (by as_aux_lemma => kernel_rfl) trivial fun s_ => ?_
  refine Run.new #[.int .i64 l.n, .slice A1 l.ls.length c1, .slice A2 l.es.length c2] 25 (fun g_ => .pointer (some ⟨g_, 0, none⟩)) (some 5) (at_ Tryz.f30 [0,8,1]) (by as_aux_lemma => kernel_rfl) fun g1 h1 hng1 hEg1 hBg1 => ?_
  -- at 11083
  refine Run.adv 12 [.val (.agg #[.int .i64 l.n, .slice A1 l.ls.length c1, .slice A2 l.es.length c2])] (at_ Tryz.f30 [1,1,0,8,3]) [(0, .agg #[.int .i64 l.n, .slice A1 l.ls.length c1, .slice A2 l.es.length c2]), (1, .slice A xss.length c), (2, .int .i64 t), (3, .int .i64 lb), (4, .int .i64 to), (5, .pointer (some ⟨g1, 0, none⟩)), (10, .int .i64 0), (11, .int .i64 (-1)), (12, .int .i64 (-1)), (16, .agg #[.int .i64 l.n, .slice A1 l.ls.length c1, .slice A2 l.es.length c2]), (17, .int .i64 t), (18, .int .i64 lb)]
    (cellsAt h1 ⟨g1, 0, none⟩ [.int .i64 l.n, .slice A1 l.ls.length c1, .slice A2 l.es.length c2] 0)
    (by as_aux_lemma => kernel_rfl) (hBg1.all (Ext.refl _)) fun s_ => ?_
  refine Run.call 46 #[.agg #[.int .i64 l.n, .slice A1 l.ls.length c1, .slice A2 l.es.length c2], .int .i64 t, .int .i64 lb] (some 19) (at_ Tryz.f30 [1,1,0,8,4]) (by as_aux_lemma => kernel_rfl) (Succ_ct A1 A2 c1 c2 l t lb _ (hx.ext hEg1) hlen) ?_
  rintro v h2 ⟨og, hO, hE2, -⟩
  obtain ⟨A3, c3, rfl, hr3⟩ := hO.row1 (d := 0) (by omega)
  have hE02 := hEg1.trans hE2
  -- at 111012
  refine Run.adv 8 [] (at_ Tryz.f30 [1,1,1,0,1,2]) [(1, .slice A xss.length c), (4, .int .i64 to), (11, .int .i64 (-1)), (12, .int .i64 (-1)), (13, .slice A3 ((succL l.es t lb).length) c3), (14, .int .i64 0)]
    (True)
    (by as_aux_lemma => kernel_rfl) trivial fun s_ => ?_
  refine Run.loop (at_ Tryz.f30 [1,1,1,0,1,2,3]) (at_ Tryz.f30 [1,1,1,0,1,2,7]) (fun (⟨i, q⟩ : Nat × Int) => [(1, .slice A xss.length c), (4, .int .i64 to), (11, .int .i64 (bestL xss to ((succL l.es t lb).take i))), (12, .int .i64 q), (13, .slice A3 ((succL l.es t lb).length) c3), (14, .int .i64 (i : Int))])
    (fun ⟨i, q⟩ h' => h' = h2 ∧ i ≤ (succL l.es t lb).length ∧ q = (if bestL xss to ((succL l.es t lb).take i) < 0 then -1 else lateI xss to (bestL xss to ((succL l.es t lb).take i)))) (fun ⟨i, q⟩ => (succL l.es t lb).length - i) (0, -1) (by as_aux_lemma => kernel_rfl) rfl ?_ ?_
  · exact ⟨rfl, Nat.zero_le _, rfl⟩
  rintro ⟨i, q⟩ s_ h' ⟨rfl, hi, hq⟩ again
  simp only at hi hq again
  dsimp only
  by_cases hlt : i < (succL l.es t lb).length
  · obtain ⟨b, off, rfl, hp⟩ := hr3.open_ (by omega)
    have hsn := bestL_snoc xss to (rd (succL l.es t lb) (i : Int)) ((succL l.es t lb).take i)
    rw [← take_rd _ i hlt] at hsn
    have hmem : rd (succL l.es t lb) (i : Int) ∈ succL l.es t lb := by
      unfold rd
      rw [Int.toNat_natCast, List.getD_eq_getElem?_getD, List.getElem?_eq_getElem hlt]
      exact List.getElem_mem _
    generalize hv : rd (succL l.es t lb) (i : Int) = v at hsn hmem
    have hvr := suc_range hm hn hmem
    generalize bestL xss to ((succL l.es t lb).take i) = best at hsn hq
    have hpe := hp _ (Ext.refl _) (i : Int) (by omega) (by omega)
    rw [show (succL l.es t lb).getD (i : Int).toNat 0 = v from hv] at hpe
    have hapl := apartI_lo xss to v
    have next : bestL xss to ((succL l.es t lb).take (i + 1)) = best → ¬ (lateI xss to v > q) → q = (if bestL xss to ((succL l.es t lb).take (i + 1)) < 0 then -1 else lateI xss to (bestL xss to ((succL l.es t lb).take (i + 1)))) := fun e _ => by rw [e]; exact hq
    have hl0 : 0 ≤ lateI xss to v := by unfold lateI; split <;> omega
    have hup : lateI xss to v > q → bestL xss to ((succL l.es t lb).take (i + 1)) = v := fun hh => by
      rw [hsn]
      refine if_pos ?_
      by_cases e : best < 0
      · exact .inl e
      · rw [if_neg e] at hq; right; omega
    have hst : ¬ lateI xss to v > q → bestL xss to ((succL l.es t lb).take (i + 1)) = best := fun hh => by
      rw [hsn]
      refine if_neg ?_
      rintro (e | e)
      · rw [if_pos e] at hq; omega
      · by_cases e2 : best < 0
        · rw [if_pos e2] at hq; omega
        · rw [if_neg e2] at hq; omega
    by_cases e1 : apartI xss to v < 0
    · have hlv : lateI xss to v = xss.length := if_neg (by omega)
      by_cases e2 : (xss.length : Int) > q
      · -- at 1110127
        refine Run.adv 57 [.dec true, .val (.int .i64 v), .val (.int .i64 (apartI xss to v)), .dec true, .dec true, .val (.int .i64 v)] (at_ Tryz.f30 [1,1,1,0,1,2,7]) [(1, .slice A xss.length c), (4, .int .i64 to), (11, .int .i64 v), (12, .int .i64 (xss.length : Int)), (13, .slice (some ⟨b, off, none⟩) ((succL l.es t lb).length) c3), (14, .int .i64 ((i + 1 : Nat) : Int))]
          ((decide ((i : Int) < ((succL l.es t lb).length : Int))) = true ∧ (0 ≤ (i : Int) ∧ (i : Int) < ((succL l.es t lb).length : Int)) ∧ cellH h' ⟨b, off + (i : Int).toNat, none⟩ = some (.int .i64 v) ∧ (Ct Tryz.prog 15 #[.slice A xss.length c, .int .i64 to, .int .i64 v] h' (fun v_ h_ => v_ = .int .i64 (apartI xss to v) ∧ h_ = h')) ∧ (decide (apartI xss to v < 0)) = true ∧ (decide ((xss.length : Int) > q)) = true ∧ (0 ≤ (i : Int) ∧ (i : Int) < ((succL l.es t lb).length : Int)) ∧ cellH h' ⟨b, off + (i : Int).toNat, none⟩ = some (.int .i64 v) ∧ (-9223372036854775808 ≤ (i : Int) + 1 ∧ (i : Int) + 1 ≤ 9223372036854775807))
          (by as_aux_lemma => kernel_rfl) ⟨(by first | assumption | exact decide_eq_true (by first | omega | assumption)), ⟨by omega, by omega⟩, (by exact hpe), (refApart_ct A c n xss to v _ (hr.ext hE02) hrl hto hvr), (by first | assumption | exact decide_eq_true (by first | omega | assumption)), (by first | assumption | exact decide_eq_true (by first | omega | assumption)), ⟨by omega, by omega⟩, (by exact hpe), ⟨by omega, by omega⟩⟩ fun s_ => ?_
        have hu := hup (by omega)
        rw [show Value.int .i64 v = .int .i64 (bestL xss to ((succL l.es t lb).take (i + 1))) by rw [hu]]
        refine again (i + 1, (xss.length : Int)) _ _ ⟨rfl, by simp only; omega, ?_⟩ (by simp only; omega)
        simp only
        rw [hu, if_neg (by omega), hlv]
      · -- at 1110127
        refine Run.adv 49 [.dec true, .val (.int .i64 v), .val (.int .i64 (apartI xss to v)), .dec true, .dec false] (at_ Tryz.f30 [1,1,1,0,1,2,7]) [(1, .slice A xss.length c), (4, .int .i64 to), (11, .int .i64 best), (12, .int .i64 q), (13, .slice (some ⟨b, off, none⟩) ((succL l.es t lb).length) c3), (14, .int .i64 ((i + 1 : Nat) : Int))]
          ((decide ((i : Int) < ((succL l.es t lb).length : Int))) = true ∧ (0 ≤ (i : Int) ∧ (i : Int) < ((succL l.es t lb).length : Int)) ∧ cellH h' ⟨b, off + (i : Int).toNat, none⟩ = some (.int .i64 v) ∧ (Ct Tryz.prog 15 #[.slice A xss.length c, .int .i64 to, .int .i64 v] h' (fun v_ h_ => v_ = .int .i64 (apartI xss to v) ∧ h_ = h')) ∧ (decide (apartI xss to v < 0)) = true ∧ (decide ((xss.length : Int) > q)) = false ∧ (-9223372036854775808 ≤ (i : Int) + 1 ∧ (i : Int) + 1 ≤ 9223372036854775807))
          (by as_aux_lemma => kernel_rfl) ⟨(by first | assumption | exact decide_eq_true (by first | omega | assumption)), ⟨by omega, by omega⟩, (by exact hpe), (refApart_ct A c n xss to v _ (hr.ext hE02) hrl hto hvr), (by first | assumption | exact decide_eq_true (by first | omega | assumption)), (by first | assumption | exact decide_eq_false (by first | omega | assumption)), ⟨by omega, by omega⟩⟩ fun s_ => ?_
        have hu := hst (by omega)
        rw [← hu]
        exact again (i + 1, q) _ _ ⟨rfl, by simp only; omega, next hu (by omega)⟩ (by simp only; omega)
    · have hlv : lateI xss to v = apartI xss to v := if_pos (by omega)
      by_cases e2 : apartI xss to v > q
      · -- at 1110127
        refine Run.adv 53 [.dec true, .val (.int .i64 v), .val (.int .i64 (apartI xss to v)), .dec false, .dec true, .val (.int .i64 v)] (at_ Tryz.f30 [1,1,1,0,1,2,7]) [(1, .slice A xss.length c), (4, .int .i64 to), (11, .int .i64 v), (12, .int .i64 (apartI xss to v)), (13, .slice (some ⟨b, off, none⟩) ((succL l.es t lb).length) c3), (14, .int .i64 ((i + 1 : Nat) : Int))]
          ((decide ((i : Int) < ((succL l.es t lb).length : Int))) = true ∧ (0 ≤ (i : Int) ∧ (i : Int) < ((succL l.es t lb).length : Int)) ∧ cellH h' ⟨b, off + (i : Int).toNat, none⟩ = some (.int .i64 v) ∧ (Ct Tryz.prog 15 #[.slice A xss.length c, .int .i64 to, .int .i64 v] h' (fun v_ h_ => v_ = .int .i64 (apartI xss to v) ∧ h_ = h')) ∧ (decide (apartI xss to v < 0)) = false ∧ (decide (apartI xss to v > q)) = true ∧ (0 ≤ (i : Int) ∧ (i : Int) < ((succL l.es t lb).length : Int)) ∧ cellH h' ⟨b, off + (i : Int).toNat, none⟩ = some (.int .i64 v) ∧ (-9223372036854775808 ≤ (i : Int) + 1 ∧ (i : Int) + 1 ≤ 9223372036854775807))
          (by as_aux_lemma => kernel_rfl) ⟨(by first | assumption | exact decide_eq_true (by first | omega | assumption)), ⟨by omega, by omega⟩, (by exact hpe), (refApart_ct A c n xss to v _ (hr.ext hE02) hrl hto hvr), (by first | assumption | exact decide_eq_false (by first | omega | assumption)), (by first | assumption | exact decide_eq_true (by first | omega | assumption)), ⟨by omega, by omega⟩, (by exact hpe), ⟨by omega, by omega⟩⟩ fun s_ => ?_
        have hu := hup (by omega)
        rw [show Value.int .i64 v = .int .i64 (bestL xss to ((succL l.es t lb).take (i + 1))) by rw [hu]]
        refine again (i + 1, apartI xss to v) _ _ ⟨rfl, by simp only; omega, ?_⟩ (by simp only; omega)
        simp only
        rw [hu, if_neg (by omega), hlv]
      · -- at 1110127
        refine Run.adv 45 [.dec true, .val (.int .i64 v), .val (.int .i64 (apartI xss to v)), .dec false, .dec false] (at_ Tryz.f30 [1,1,1,0,1,2,7]) [(1, .slice A xss.length c), (4, .int .i64 to), (11, .int .i64 best), (12, .int .i64 q), (13, .slice (some ⟨b, off, none⟩) ((succL l.es t lb).length) c3), (14, .int .i64 ((i + 1 : Nat) : Int))]
          ((decide ((i : Int) < ((succL l.es t lb).length : Int))) = true ∧ (0 ≤ (i : Int) ∧ (i : Int) < ((succL l.es t lb).length : Int)) ∧ cellH h' ⟨b, off + (i : Int).toNat, none⟩ = some (.int .i64 v) ∧ (Ct Tryz.prog 15 #[.slice A xss.length c, .int .i64 to, .int .i64 v] h' (fun v_ h_ => v_ = .int .i64 (apartI xss to v) ∧ h_ = h')) ∧ (decide (apartI xss to v < 0)) = false ∧ (decide (apartI xss to v > q)) = false ∧ (-9223372036854775808 ≤ (i : Int) + 1 ∧ (i : Int) + 1 ≤ 9223372036854775807))
          (by as_aux_lemma => kernel_rfl) ⟨(by first | assumption | exact decide_eq_true (by first | omega | assumption)), ⟨by omega, by omega⟩, (by exact hpe), (refApart_ct A c n xss to v _ (hr.ext hE02) hrl hto hvr), (by first | assumption | exact decide_eq_false (by first | omega | assumption)), (by first | assumption | exact decide_eq_false (by first | omega | assumption)), ⟨by omega, by omega⟩⟩ fun s_ => ?_
        have hu := hst (by omega)
        rw [← hu]
        exact again (i + 1, q) _ _ ⟨rfl, by simp only; omega, next hu (by omega)⟩ (by simp only; omega)
  · have hie : i = (succL l.es t lb).length := by omega
    -- at 11111
    refine Run.adv 15 [.dec false] (at_ Tryz.f30 [1,1,1,1,1]) [(10, .int .i64 (bestL xss to ((succL l.es t lb).take i)))]
      ((decide ((i : Int) < ((succL l.es t lb).length : Int))) = false)
      (by as_aux_lemma => kernel_rfl) (by first | assumption | exact decide_eq_false (by first | omega | assumption)) fun s_ => ?_
    refine Run.ret [] (.int .i64 (bestL xss to ((succL l.es t lb).take i))) (True) Tryz.func30 (by as_aux_lemma => kernel_rfl) (by as_aux_lemma => kernel_rfl) trivial ?_
    rw [hie, List.take_length]
    exact ⟨rfl, hE02⟩
/-- A right reply to nodes that are never apart leads to such again. -/
theorem reply_keeps {l : Lt} {n m : Nat} (hm : May l) (hn : l.n = (n : Int)) (hS : Stop l.es n m) {s t : Int} (hs : 0 ≤ s ∧ s < n) (ht : 0 ≤ t ∧ t < n) (ha : apartI (levs l.es n m) s t < 0) {lb to : Int} (he : (s, lb, to) ∈ l.es) :
    0 ≤ bestL (levs l.es n m) to (succL l.es t lb) ∧ bestL (levs l.es n m) to (succL l.es t lb) < n ∧ apartI (levs l.es n m) to (bestL (levs l.es n m) to (succL l.es t lb)) < 0 := by
  have hem := may_edge hm he
  unfold EdgeMay at hem
  simp only at hem
  obtain ⟨s, rfl⟩ := Int.eq_ofNat_of_zero_le hs.1
  obtain ⟨t, rfl⟩ := Int.eq_ofNat_of_zero_le ht.1
  obtain ⟨to, rfl⟩ := Int.eq_ofNat_of_zero_le hem.2.2.1
  obtain ⟨k, a1, a2, a3, a4, a5, a6⟩ := late_nat (l := l) (n := n) (m := m) (s := s) (t := t) (by omega) (by omega)
  have hkm : ¬ k ≤ m := fun hh => by rw [if_pos hh] at a6; omega
  have htog := a4 m (by omega)
  have hst := stop_stable hS
  have hw := hst s t (by rw [lev_len]; omega) (by rw [lev_len]; omega) (by rw [lev_plain]; exact htog)
  rw [lev_plain, matched_iff] at hw
  obtain ⟨e', b1, b2, b3, b4⟩ := hw.1 _ he rfl
  have hv : e'.2.2 ∈ succL l.es t lb := mem_succL.2 ⟨e', b1, b2, b3, rfl⟩
  have hvr := suc_range hm hn hv
  obtain ⟨v, hve⟩ := Int.eq_ofNat_of_zero_le hvr.1
  rw [hve] at hv hvr b4
  have hlv : (m : Int) < lateI (levs l.es n m) to v := (late_ge (l := l) (n := n) (m := m) (by omega) (by omega) (Nat.le_refl m)).2 b4.symm
  rcases best_spec (levs l.es n m) to (succL l.es t lb) (fun v hv => (suc_range hm hn hv).1) with ⟨c1, _⟩ | ⟨c1, c2, c3⟩
  · rw [c1] at hv; simp at hv
  · have hbr := suc_range hm hn c1
    have hc := c3 v hv
    generalize bestL (levs l.es n m) to (succL l.es t lb) = best at *
    obtain ⟨best, rfl⟩ := Int.eq_ofNat_of_zero_le c2
    obtain ⟨q, d1, d2, d3, d4, d5, d6⟩ := late_nat (l := l) (n := n) (m := m) (s := to) (t := best) (by omega) (by omega)
    refine ⟨c2, hbr.2, ?_⟩
    rw [d6, if_neg (by omega)]
    decide
end Go.Proofs.YtbajgbkkbabmlaaGreatDoor
