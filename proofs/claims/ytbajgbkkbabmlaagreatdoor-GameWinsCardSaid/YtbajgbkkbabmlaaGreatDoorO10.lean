/- The reference's attack and game, walked. -/
import Derived.Test.YtbajgbkkbabmlaaGreatDoorProg
import Derived.Test.YtbajgbkkbabmlaaGreatDoorVq
import Derived.Test.YtbajgbkkbabmlaaGreatDoorO9
set_option linter.unusedVariables false
namespace Go.Proofs.YtbajgbkkbabmlaaGreatDoor
open Go.Vc
theorem lx_53_1012310211110123102 : LexOk (opsAt (at_ Tryz.f53 [1,0,1,2,3,1,0,2,1,1,1,1,0,1,2,3,1,0,2])) := ⟨by kernel_rfl⟩

theorem find_filter {α : Type} (p q : α → Bool) : ∀ xs : List α, (xs.filter p).find? q = xs.find? (fun a => p a && q a)
  | [] => rfl
  | x :: xs => by
    have ih := find_filter p q xs
    cases hp : p x
    · rw [List.filter_cons_of_neg (by simp [hp]), List.find?_cons_of_neg (by simp [hp]), ih]
    · rw [List.filter_cons_of_pos hp]
      cases hq : q x
      · rw [List.find?_cons_of_neg (by simp [hq]), List.find?_cons_of_neg (by simp [hq]), ih]
      · rw [List.find?_cons_of_pos hq, List.find?_cons_of_pos (by simp [hp, hq])]
theorem find_congr {α : Type} {p q : α → Bool} : ∀ {xs : List α}, (∀ x ∈ xs, p x = q x) → xs.find? p = xs.find? q
  | [], _ => rfl
  | x :: xs, h => by
    have ih := find_congr (p := p) (q := q) (xs := xs) (fun y hy => h y (by simp [hy]))
    rw [List.find?_cons, List.find?_cons, h x (by simp), ih]
/-- Can no edge of another node follow? -/
def hitQ (l : Lt) (q : List Int) (s t : Int) (e : Ed) : Bool := decide (e.1 = s) && decide (∀ v ∈ succL l.es t e.2.1, rd q v ≠ rd q e.2.2)
def attackQ (l : Lt) (q : List Int) (s t : Int) : Option Ed := l.es.find? (hitQ l q s t)
theorem attackQ_eq {l : Lt} {n m k : Nat} (hm : May l) (hn : l.n = (n : Int)) (hk : k ≤ m) (s t : Int) : attackQ l (lev l.es n k) s t = attackL l (levs l.es n m) s t ((k + 1 : Nat) : Int) := by
  unfold attackQ attackL outL
  rw [find_filter]
  refine find_congr fun e he => ?_
  unfold hitQ
  congr 1
  rw [Bool.eq_iff_iff, decide_eq_true_eq, hit_iff hm hn he hk]
set_option maxHeartbeats 1000000 in
theorem refAttack_ct (A1 A2 A4 : Option Addr) (c1 c2 c4 n : Nat) (l : Lt) (q : List Int) (s t : Int) (h : Heap) (hx : LtAt h l A1 c1 A2 c2) (hq : Ints h A4 q c4) (hm : May l) (hn : l.n = (n : Int)) (hqn : q.length = n) :
    Ct Tryz.prog 53 #[.agg #[.int .i64 l.n, .slice A1 l.ls.length c1, .slice A2 l.es.length c2], .slice A4 q.length c4, .int .i64 s, .int .i64 t] h (fun v h' => v = attV (attackQ l q s t) ∧ Ext h h') := by
  have hlen := hm.len
  have hn1 := hm.n1
  refine Ct.enter (args := [.agg #[.int .i64 l.n, .slice A1 l.ls.length c1, .slice A2 l.es.length c2], .slice A4 q.length c4, .int .i64 s, .int .i64 t]) Tryz.func53 rfl Tryz.ntmps53 (by simp) fun w hw => ?_
  -- at 080
  refine Run.adv 2 [] (at_ Tryz.f53 [0,8,0]) [(0, .agg #[.int .i64 l.n, .slice A1 l.ls.length c1, .slice A2 l.es.length c2]), (1, .slice A4 q.length c4), (2, .int .i64 s), (3, .int .i64 t)]
    (True)
    (by as_aux_lemma => kernel_rfl) trivial fun s_ => ?_
  refine Run.new #[.int .i64 l.n, .slice A1 l.ls.length c1, .slice A2 l.es.length c2] 25 (fun g_ => .pointer (some ⟨g_, 0, none⟩)) (some 4) (at_ Tryz.f53 [0,8,1]) (by as_aux_lemma => kernel_rfl) fun g1 h1 hng1 hEg1 hBg1 => ?_
  refine Run.new #[.int .i64 0, .int .i64 0, .int .i64 0] 64 (fun g_ => .pointer (some ⟨g_, 0, none⟩)) (some 8) (at_ Tryz.f53 [0,8,2]) (by as_aux_lemma => kernel_rfl) fun g8 h2 hng8 hEg8 hBg8 => ?_
  have hE02 := hEg1.trans hEg8
  have hgl1 := hBg1.lt
  have hgl8 := hBg8.lt
  -- at 1012
  refine Run.adv 8 [] (at_ Tryz.f53 [1,0,1,2]) [(1, .slice A4 q.length c4), (2, .int .i64 s), (3, .int .i64 t), (4, .pointer (some ⟨g1, 0, none⟩)), (8, .pointer (some ⟨g8, 0, none⟩)), (10, .int .i64 0)]
    (True)
    (by as_aux_lemma => kernel_rfl) trivial fun s_ => ?_
  refine Run.loop (at_ Tryz.f53 [1,0,1,2,3]) (at_ Tryz.f53 [1,0,1,2,7]) (fun i : Nat => [(1, .slice A4 q.length c4), (2, .int .i64 s), (3, .int .i64 t), (4, .pointer (some ⟨g1, 0, none⟩)), (8, .pointer (some ⟨g8, 0, none⟩)), (10, .int .i64 (i : Int))])
    (fun i h3 => i ≤ l.es.length ∧ (∀ j : Nat, j < i → hitQ l q s t (l.es.getD j (0, 0, 0)) = false) ∧ Ext h2 h3) (fun i => l.es.length - i) 0 (by as_aux_lemma => kernel_rfl) rfl ?_ ?_
  · exact ⟨Nat.zero_le _, fun j hj => by omega, Ext.refl _⟩
  rintro i s_ h3 ⟨hi, hI, hE⟩ again
  have hE03 := hE02.trans hE
  have hE13 := hEg8.trans hE
  have hsz := hE.size
  by_cases hlt : i < l.es.length
  · obtain ⟨b, off, rfl, hp⟩ := hx.es.open_ (by omega)
    have hfa := find_at (0, 0, 0) (p := hitQ l q s t) hlt
    have hpe := hp _ hE03 (i : Int) (by omega) (by omega)
    rw [Int.toNat_natCast] at hpe
    have hmem : l.es.getD i (0, 0, 0) ∈ l.es := by rw [List.getD_eq_getElem?_getD, List.getElem?_eq_getElem hlt]; exact List.getElem_mem _
    generalize hed : l.es.getD i (0, 0, 0) = e at hfa hpe hmem
    have hem := may_edge hm hmem
    unfold EdgeMay at hem
    -- at 10123102085
    refine Run.adv 20 [.val (.slice (some ⟨b, off, none⟩) l.es.length c2), .dec true, .val (.slice (some ⟨b, off, none⟩) l.es.length c2), .val (.agg #[.int .i64 e.1, .int .i64 e.2.1, .int .i64 e.2.2])] (at_ Tryz.f53 [1,0,1,2,3,1,0,2,0,8,5]) [(1, .slice A4 q.length c4), (2, .int .i64 s), (3, .int .i64 t), (4, .pointer (some ⟨g1, 0, none⟩)), (8, .pointer (some ⟨g8, 0, none⟩)), (10, .int .i64 (i : Int)), (26, .agg #[.int .i64 e.1, .int .i64 e.2.1, .int .i64 e.2.2])]
      (cellH h3 ⟨g1, 2, none⟩ = some (.slice (some ⟨b, off, none⟩) l.es.length c2) ∧ (decide ((i : Int) < (l.es.length : Int))) = true ∧ cellH h3 ⟨g1, 2, none⟩ = some (.slice (some ⟨b, off, none⟩) l.es.length c2) ∧ (0 ≤ (i : Int) ∧ (i : Int) < (l.es.length : Int)) ∧ cellsAt h3 ⟨b, off + (i : Int).toNat * 3, none⟩ [.int .i64 e.1, .int .i64 e.2.1, .int .i64 e.2.2] 0)
      (by as_aux_lemma => kernel_rfl) ⟨(hBg1.at hE13 2 rfl), (by first | assumption | exact decide_eq_true (by first | omega | assumption)), (hBg1.at hE13 2 rfl), ⟨by omega, by omega⟩, (by rw [Int.toNat_natCast]; exact hpe)⟩ fun s_ => ?_
    refine Run.new #[.int .i64 0, .int .i64 0, .int .i64 0] 64 (fun g_ => .pointer (some ⟨g_, 0, none⟩)) (some 11) (at_ Tryz.f53 [1,0,1,2,3,1,0,2,0,8,6]) (by as_aux_lemma => kernel_rfl) fun g11 h4 hng11 hEg11 hBg11 => ?_
    refine Run.store g11 0 [.int .i64 e.1, .int .i64 e.2.1, .int .i64 e.2.2] (at_ Tryz.f53 [1,0,1,2,3,1,0,2,0,8,7]) (by as_aux_lemma => kernel_rfl) (hBg11.ext (Ext.refl _)) (by simp) rfl fun h5 hMh5 hzh5 (hBg11_h5 : Blk h5 g11 #[.int .i64 e.1, .int .i64 e.2.1, .int .i64 e.2.2] 64) => ?_
    have hE35 := (hMh5.ext_new hEg11 hng11 (Ext.refl _))
    have hE05 := (hMh5.ext_new (hE03.trans hEg11) hng11 hE03)
    have hE25 := hE.trans hE35
    have hgl11 := hBg11_h5.lt
    have next : hitQ l q s t e = false → ∀ j : Nat, j < i + 1 → hitQ l q s t (l.es.getD j (0, 0, 0)) = false := fun hno j hj => by
      by_cases e3 : j = i
      · subst e3; rw [hed]; exact hno
      · exact hI j (by omega)
    by_cases e1 : e.1 = s
    rotate_left
    · -- at 10127
      refine Run.adv 16 [.val (.int .i64 e.1), .dec true] (at_ Tryz.f53 [1,0,1,2,7]) [(1, .slice A4 q.length c4), (2, .int .i64 s), (3, .int .i64 t), (4, .pointer (some ⟨g1, 0, none⟩)), (8, .pointer (some ⟨g8, 0, none⟩)), (10, .int .i64 ((i + 1 : Nat) : Int))]
        (cellH h5 ⟨g11, 0, none⟩ = some (.int .i64 e.1) ∧ (e.1 != s) = true ∧ (-9223372036854775808 ≤ (i : Int) + 1 ∧ (i : Int) + 1 ≤ 9223372036854775807))
        (by as_aux_lemma => kernel_rfl) ⟨(hBg11_h5.at (Ext.refl _) 0 rfl), (bne_iff_ne.2 (by first | omega | assumption)), ⟨by omega, by omega⟩⟩ fun s_ => ?_
      exact again (i + 1) _ _ ⟨by omega, next (by unfold hitQ; rw [decide_eq_false e1]; rfl), hE25⟩ (by omega)
    -- at 1012310211084
    refine Run.adv 17 [.val (.int .i64 e.1), .dec false, .val (.agg #[.int .i64 l.n, .slice A1 l.ls.length c1, .slice (some ⟨b, off, none⟩) l.es.length c2]), .val (.int .i64 e.2.1)] (at_ Tryz.f53 [1,0,1,2,3,1,0,2,1,1,0,8,4]) [(1, .slice A4 q.length c4), (2, .int .i64 s), (3, .int .i64 t), (4, .pointer (some ⟨g1, 0, none⟩)), (8, .pointer (some ⟨g8, 0, none⟩)), (10, .int .i64 (i : Int)), (11, .pointer (some ⟨g11, 0, none⟩)), (26, .agg #[.int .i64 e.1, .int .i64 e.2.1, .int .i64 e.2.2]), (27, .pointer (some ⟨g11, 0, none⟩)), (28, .int .i64 e.1), (29, .int .i64 s), (30, .bool false), (31, .agg #[.int .i64 l.n, .slice A1 l.ls.length c1, .slice (some ⟨b, off, none⟩) l.es.length c2]), (32, .int .i64 t), (33, .pointer (some ⟨g11, 1, none⟩)), (34, .int .i64 e.2.1)]
      (cellH h5 ⟨g11, 0, none⟩ = some (.int .i64 e.1) ∧ (e.1 != s) = false ∧ cellsAt h5 ⟨g1, 0, none⟩ [.int .i64 l.n, .slice A1 l.ls.length c1, .slice (some ⟨b, off, none⟩) l.es.length c2] 0 ∧ cellH h5 ⟨g11, 1, none⟩ = some (.int .i64 e.2.1))
      (by as_aux_lemma => kernel_rfl) ⟨(hBg11_h5.at (Ext.refl _) 0 rfl), (bne_eq_false_iff_eq.2 (by first | omega | assumption)), (hBg1.all (hMh5.ext_new (hE13.trans hEg11) hng11 hE13)), (hBg11_h5.at (Ext.refl _) 1 rfl)⟩ fun s_ => ?_
    refine Run.call 46 #[.agg #[.int .i64 l.n, .slice A1 l.ls.length c1, .slice (some ⟨b, off, none⟩) l.es.length c2], .int .i64 t, .int .i64 e.2.1] (some 35) (at_ Tryz.f53 [1,0,1,2,3,1,0,2,1,1,0,8,5]) (by as_aux_lemma => kernel_rfl) (Succ_ct A1 (some ⟨b, off, none⟩) c1 c2 l t e.2.1 _ (hx.ext hE05) hlen) ?_
    rintro v h6 ⟨og, hO, hE6, -⟩
    have hsl := succL_len l.es t e.2.1
    obtain ⟨A5, c5, rfl, hr5⟩ := hO.row1 (d := 0) (by omega)
    have hE06 := hE05.trans hE6
    have hE26 := hE25.trans hE6
    obtain ⟨bq, oq, hA4, hpq⟩ := hq.open_ (by omega)
    subst hA4
    -- at 101231021111012
    refine Run.adv 12 [] (at_ Tryz.f53 [1,0,1,2,3,1,0,2,1,1,1,1,0,1,2]) [(1, .slice (some ⟨bq, oq, none⟩) q.length c4), (2, .int .i64 s), (3, .int .i64 t), (4, .pointer (some ⟨g1, 0, none⟩)), (8, .pointer (some ⟨g8, 0, none⟩)), (10, .int .i64 (i : Int)), (11, .pointer (some ⟨g11, 0, none⟩)), (12, .slice A5 ((succL l.es t e.2.1).length) c5), (13, .bool false), (14, .int .i64 0)]
      (True)
      (by as_aux_lemma => kernel_rfl) trivial fun s_ => ?_
    refine Run.loop (at_ Tryz.f53 [1,0,1,2,3,1,0,2,1,1,1,1,0,1,2,3]) (at_ Tryz.f53 [1,0,1,2,3,1,0,2,1,1,1,1,0,1,2,7]) (fun (⟨k, fb⟩ : Nat × Bool) => [(1, .slice (some ⟨bq, oq, none⟩) q.length c4), (2, .int .i64 s), (3, .int .i64 t), (4, .pointer (some ⟨g1, 0, none⟩)), (8, .pointer (some ⟨g8, 0, none⟩)), (10, .int .i64 (i : Int)), (11, .pointer (some ⟨g11, 0, none⟩)), (12, .slice A5 ((succL l.es t e.2.1).length) c5), (13, .bool fb), (14, .int .i64 (k : Int))])
      (fun ⟨k, fb⟩ h' => h' = h6 ∧ k ≤ (succL l.es t e.2.1).length ∧ (fb = true ↔ ∃ j : Nat, j < k ∧ rd q (rd (succL l.es t e.2.1) j) = rd q e.2.2)) (fun ⟨k, fb⟩ => (succL l.es t e.2.1).length - k) (0, false) (by as_aux_lemma => kernel_rfl) rfl ?_ ?_
    · exact ⟨rfl, Nat.zero_le _, by simp⟩
    rintro ⟨k, fb⟩ s_ h' ⟨rfl, hk, hfb⟩ again2
    simp only at hk hfb again2
    dsimp only
    have hs26 := hE26.size
    by_cases hlt2 : k < (succL l.es t e.2.1).length
    · cases fb with
      | true =>
        obtain ⟨j, hj, hje⟩ := hfb.1 rfl
        -- at 1012310211110127
        refine Run.adv 19 [.dec true, .draw, .lit, .lit, .lit, .lit, .lit, .lit, .lit, .lit, .lit, .lit, .lit, .lit, .lit] (at_ Tryz.f53 [1,0,1,2,3,1,0,2,1,1,1,1,0,1,2,7]) [(1, .slice (some ⟨bq, oq, none⟩) q.length c4), (2, .int .i64 s), (3, .int .i64 t), (4, .pointer (some ⟨g1, 0, none⟩)), (8, .pointer (some ⟨g8, 0, none⟩)), (10, .int .i64 (i : Int)), (11, .pointer (some ⟨g11, 0, none⟩)), (12, .slice A5 ((succL l.es t e.2.1).length) c5), (13, .bool true), (14, .int .i64 ((k + 1 : Nat) : Int))]
          ((decide ((k : Int) < ((succL l.es t e.2.1).length : Int))) = true ∧ LexOk (opsAt (at_ Tryz.f53 [1,0,1,2,3,1,0,2,1,1,1,1,0,1,2,3,1,0,2])) ∧ (-9223372036854775808 ≤ (k : Int) + 1 ∧ (k : Int) + 1 ≤ 9223372036854775807))
          (by as_aux_lemma => kernel_rfl) ⟨(by first | assumption | exact decide_eq_true (by first | omega | assumption)), lx_53_1012310211110123102, ⟨by omega, by omega⟩⟩ fun s_ => ?_
        exact again2 (k + 1, true) _ _ ⟨rfl, by simp only; omega, ⟨fun _ => ⟨j, by simp only; omega, hje⟩, fun _ => rfl⟩⟩ (by simp only; omega)
      | false =>
        obtain ⟨b5, o5, rfl, hp5⟩ := hr5.open_ (by omega)
        have hvm : rd (succL l.es t e.2.1) (k : Int) ∈ succL l.es t e.2.1 := by
          unfold rd
          rw [Int.toNat_natCast, List.getD_eq_getElem?_getD, List.getElem?_eq_getElem hlt2]
          exact List.getElem_mem _
        have hvr := suc_range hm hn hvm
        have hpv := hp5 _ (Ext.refl _) (k : Int) (by omega) (by omega)
        rw [show (succL l.es t e.2.1).getD (k : Int).toNat 0 = rd (succL l.es t e.2.1) (k : Int) from rfl] at hpv
        generalize hv : rd (succL l.es t e.2.1) (k : Int) = v at hvr hpv
        -- at 1012310211110127
        refine Run.adv 19 [.dec true, .draw, .lit, .lit, .lit, .lit, .lit, .val (.int .i64 v), .lit, .lit, .val (.int .i64 (rd q v)), .lit, .lit, .lit, .val (.int .i64 e.2.2), .lit, .lit, .val (.int .i64 (rd q e.2.2)), .lit] (at_ Tryz.f53 [1,0,1,2,3,1,0,2,1,1,1,1,0,1,2,7]) [(1, .slice (some ⟨bq, oq, none⟩) q.length c4), (2, .int .i64 s), (3, .int .i64 t), (4, .pointer (some ⟨g1, 0, none⟩)), (8, .pointer (some ⟨g8, 0, none⟩)), (10, .int .i64 (i : Int)), (11, .pointer (some ⟨g11, 0, none⟩)), (12, .slice (some ⟨b5, o5, none⟩) ((succL l.es t e.2.1).length) c5), (13, .bool ((rd q v) == (rd q e.2.2))), (14, .int .i64 ((k + 1 : Nat) : Int))]
          ((decide ((k : Int) < ((succL l.es t e.2.1).length : Int))) = true ∧ LexOk (opsAt (at_ Tryz.f53 [1,0,1,2,3,1,0,2,1,1,1,1,0,1,2,3,1,0,2])) ∧ (0 ≤ (k : Int) ∧ (k : Int) < ((succL l.es t e.2.1).length : Int)) ∧ cellH h' ⟨b5, o5 + (k : Int).toNat, none⟩ = some (.int .i64 v) ∧ (0 ≤ v ∧ v < (q.length : Int)) ∧ cellH h' ⟨bq, oq + v.toNat, none⟩ = some (.int .i64 (rd q v)) ∧ cellH h' ⟨g11, 2, none⟩ = some (.int .i64 e.2.2) ∧ (0 ≤ e.2.2 ∧ e.2.2 < (q.length : Int)) ∧ cellH h' ⟨bq, oq + e.2.2.toNat, none⟩ = some (.int .i64 (rd q e.2.2)) ∧ (-9223372036854775808 ≤ (k : Int) + 1 ∧ (k : Int) + 1 ≤ 9223372036854775807))
          (by as_aux_lemma => kernel_rfl) ⟨(by first | assumption | exact decide_eq_true (by first | omega | assumption)), lx_53_1012310211110123102, ⟨by omega, by omega⟩, (hpv), ⟨by omega, by omega⟩, (hpq _ hE06 v (by omega) (by omega)), ((hBg11_h5.ext hE6).at (Ext.refl _) 2 rfl), ⟨by omega, by omega⟩, (hpq _ hE06 e.2.2 (by omega) (by omega)), ⟨by omega, by omega⟩⟩ fun s_ => ?_
        refine again2 (k + 1, (rd q v == rd q e.2.2)) _ _ ⟨rfl, by simp only; omega, ?_⟩ (by simp only; omega)
        simp only
        rw [beq_iff_eq]
        constructor
        · intro hh; exact ⟨k, by omega, by rw [hv]; exact hh⟩
        · rintro ⟨j, hj, hje⟩
          by_cases e3 : j = k
          · subst e3; rw [hv] at hje; exact hje
          · exact absurd (hfb.2 ⟨j, by omega, hje⟩) (by simp)
    · have hall : (∃ j : Nat, j < k ∧ rd q (rd (succL l.es t e.2.1) j) = rd q e.2.2) ↔ ∃ v ∈ succL l.es t e.2.1, rd q v = rd q e.2.2 := by
        constructor
        · rintro ⟨j, hj, hje⟩
          refine ⟨_, ?_, hje⟩
          unfold rd
          rw [Int.toNat_natCast, List.getD_eq_getElem?_getD, List.getElem?_eq_getElem (by omega)]
          exact List.getElem_mem _
        · rintro ⟨v, hv, hve⟩
          obtain ⟨j, hj, rfl⟩ := List.mem_iff_getElem.1 hv
          refine ⟨j, by omega, ?_⟩
          unfold rd at hve ⊢
          rw [Int.toNat_natCast (n := j), List.getD_eq_getElem?_getD (l := succL l.es t e.2.1), List.getElem?_eq_getElem hj]
          exact hve
      cases fb with
      | true =>
        obtain ⟨v, hv, hve⟩ := hall.1 (hfb.1 rfl)
        -- at 10127
        refine Run.adv 23 [.dec false, .lit] (at_ Tryz.f53 [1,0,1,2,7]) [(1, .slice (some ⟨bq, oq, none⟩) q.length c4), (2, .int .i64 s), (3, .int .i64 t), (4, .pointer (some ⟨g1, 0, none⟩)), (8, .pointer (some ⟨g8, 0, none⟩)), (10, .int .i64 ((i + 1 : Nat) : Int))]
          ((decide ((k : Int) < ((succL l.es t e.2.1).length : Int))) = false ∧ (-9223372036854775808 ≤ (i : Int) + 1 ∧ (i : Int) + 1 ≤ 9223372036854775807))
          (by as_aux_lemma => kernel_rfl) ⟨(by first | assumption | exact decide_eq_false (by first | omega | assumption)), ⟨by omega, by omega⟩⟩ fun s_ => ?_
        refine again (i + 1) _ _ ⟨by omega, next ?_, hE26⟩ (by omega)
        unfold hitQ
        rw [decide_eq_false (p := ∀ v ∈ succL l.es t e.2.1, rd q v ≠ rd q e.2.2) (fun hh => hh v hv hve)]
        simp
      | false =>
        have hno : ∀ v ∈ succL l.es t e.2.1, rd q v ≠ rd q e.2.2 := fun v hv hve => absurd (hfb.2 (hall.2 ⟨v, hv, hve⟩)) (by simp)
        have hh : hitQ l q s t e = true := by unfold hitQ; rw [decide_eq_true e1, decide_eq_true hno]; rfl
        -- at 101231021111114081
        refine Run.adv 19 [.dec false, .lit, .val (.agg #[.int .i64 e.1, .int .i64 e.2.1, .int .i64 e.2.2])] (at_ Tryz.f53 [1,0,1,2,3,1,0,2,1,1,1,1,1,1,4,0,8,1]) [(8, .pointer (some ⟨g8, 0, none⟩)), (60, .agg #[.int .i64 e.1, .int .i64 e.2.1, .int .i64 e.2.2])]
          ((decide ((k : Int) < ((succL l.es t e.2.1).length : Int))) = false ∧ cellsAt h' ⟨g11, 0, none⟩ [.int .i64 e.1, .int .i64 e.2.1, .int .i64 e.2.2] 0)
          (by as_aux_lemma => kernel_rfl) ⟨(by first | assumption | exact decide_eq_false (by first | omega | assumption)), (hBg11_h5.all hE6)⟩ fun s_ => ?_
        refine Run.store g8 0 [.int .i64 e.1, .int .i64 e.2.1, .int .i64 e.2.2] (at_ Tryz.f53 [1,0,1,2,3,1,0,2,1,1,1,1,1,1,4,0,8,2]) (by as_aux_lemma => kernel_rfl) (hBg8.ext hE26) (by simp) rfl fun h7 hMh7 hzh7 (hBg8_h7 : Blk h7 g8 #[.int .i64 e.1, .int .i64 e.2.1, .int .i64 e.2.2] 64) => ?_
        have hBg1_h7 := hMh7.blk (hBg1.ext ((hE13.trans hE35).trans hE6)) (by simp only [ne_eq, Option.some.injEq]; omega)
        have hBg11_h7 := hMh7.blk (hBg11_h5.ext hE6) (by simp only [ne_eq, Option.some.injEq]; omega)
        -- at 1012310211111141
        refine Run.adv 2 [] (at_ Tryz.f53 [1,0,1,2,3,1,0,2,1,1,1,1,1,1,4,1]) [(8, .pointer (some ⟨g8, 0, none⟩)), (9, .bool true)]
          (True)
          (by as_aux_lemma => kernel_rfl) trivial fun s_ => ?_
        refine Run.ret [.agg #[.int .i64 e.1, .int .i64 e.2.1, .int .i64 e.2.2]] (.tuple #[.agg #[.int .i64 e.1, .int .i64 e.2.1, .int .i64 e.2.2], .bool true]) (cellsAt h7 ⟨g8, 0, none⟩ [.int .i64 e.1, .int .i64 e.2.1, .int .i64 e.2.2] 0) Tryz.func53 (by as_aux_lemma => kernel_rfl) (by as_aux_lemma => kernel_rfl) (hBg8_h7.all (Ext.refl _)) ?_
        refine ⟨?_, hMh7.ext_new hE06 hng8 hEg1⟩
        rw [attackQ, hfa hh hI]; rfl
  · -- at 11081
    refine Run.adv 14 [.val (.slice A2 l.es.length c2), .dec false] (at_ Tryz.f53 [1,1,0,8,1]) [(8, .pointer (some ⟨g8, 0, none⟩)), (61, .agg #[.int .i64 0, .int .i64 0, .int .i64 0])]
      (cellH h3 ⟨g1, 2, none⟩ = some (.slice A2 l.es.length c2) ∧ (decide ((i : Int) < (l.es.length : Int))) = false)
      (by as_aux_lemma => kernel_rfl) ⟨(hBg1.at hE13 2 rfl), (by first | assumption | exact decide_eq_false (by first | omega | assumption))⟩ fun s_ => ?_
    refine Run.store g8 0 [.int .i64 0, .int .i64 0, .int .i64 0] (at_ Tryz.f53 [1,1,0,8,2]) (by as_aux_lemma => kernel_rfl) (hBg8.ext hE) (by simp) rfl fun h7 hMh7 hzh7 (hBg8_h7 : Blk h7 g8 #[.int .i64 0, .int .i64 0, .int .i64 0] 64) => ?_
    have hBg1_h7 := hMh7.blk (hBg1.ext hE13) (by simp only [ne_eq, Option.some.injEq]; omega)
    -- at 111
    refine Run.adv 2 [] (at_ Tryz.f53 [1,1,1]) [(8, .pointer (some ⟨g8, 0, none⟩)), (9, .bool false)]
      (True)
      (by as_aux_lemma => kernel_rfl) trivial fun s_ => ?_
    refine Run.ret [.agg #[.int .i64 0, .int .i64 0, .int .i64 0]] (.tuple #[.agg #[.int .i64 0, .int .i64 0, .int .i64 0], .bool false]) (cellsAt h7 ⟨g8, 0, none⟩ [.int .i64 0, .int .i64 0, .int .i64 0] 0) Tryz.func53 (by as_aux_lemma => kernel_rfl) (by as_aux_lemma => kernel_rfl) (hBg8_h7.all (Ext.refl _)) ?_
    refine ⟨?_, hMh7.ext_new hE03 hng8 hEg1⟩
    rw [attackQ, find_no (0, 0, 0) (fun j hj => hI j (by omega))]; rfl
end Go.Proofs.YtbajgbkkbabmlaaGreatDoor
