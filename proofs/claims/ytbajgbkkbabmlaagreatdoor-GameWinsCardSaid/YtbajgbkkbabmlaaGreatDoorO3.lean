/- game.open, attack, walked. -/
import Derived.Test.YtbajgbkkbabmlaaGreatDoorProg
import Derived.Test.YtbajgbkkbabmlaaGreatDoorO2
set_option linter.unusedVariables false
namespace Go.Vc
theorem find_at {α : Type} (d : α) {p : α → Bool} {xs : List α} {i : Nat} (hi : i < xs.length) (hp : p (xs.getD i d) = true) (hn : ∀ j : Nat, j < i → p (xs.getD j d) = false) : xs.find? p = some (xs.getD i d) := by
  induction xs generalizing i with
  | nil => simp at hi
  | cons x xs ih =>
    cases i with
    | zero => simp only [List.getD_cons_zero] at hp ⊢; rw [List.find?_cons_of_pos hp]
    | succ i =>
      have h0 := hn 0 (by omega)
      simp only [List.getD_cons_zero] at h0
      rw [List.find?_cons_of_neg (by simp [h0])]
      simp only [List.getD_cons_succ] at hp ⊢
      exact ih (by simpa using hi) hp fun j hj => by simpa using hn (j + 1) (by omega)
theorem find_no {α : Type} (d : α) {p : α → Bool} {xs : List α} (hn : ∀ j : Nat, j < xs.length → p (xs.getD j d) = false) : xs.find? p = none := by
  rw [List.find?_eq_none]
  intro x hx
  obtain ⟨j, hj, rfl⟩ := List.mem_iff_getElem.1 hx
  have := hn j hj
  rw [List.getD_eq_getElem?_getD, List.getElem?_eq_getElem hj] at this
  simp only [Option.getD_some] at this
  simp [this]
end Go.Vc
namespace Go.Proofs.YtbajgbkkbabmlaaGreatDoor
open Go.Vc

/-- Are nodes in a system? -/
def InR (l : Lt) (ns : List Int) : Prop := ∀ j : Nat, j < ns.length → 0 ≤ rd ns j ∧ rd ns j < l.n
theorem open_ct (A1 A2 A3 : Option Addr) (c1 c2 c3 : Nat) (l : Lt) (ns : List Int) (h : Heap) (hx : LtAt h l A1 c1 A2 c2) (hns : Ints h A3 ns c3) (hl : l.ls.length ≤ 100000) (hk : ns.length ≤ 100) (hT : Tab h) :
    Ct Tryz.prog 50 #[.agg #[.int .i64 l.n, .slice A1 l.ls.length c1, .slice A2 l.es.length c2], .slice A3 ns.length c3] h
      (fun v h' => (May l ∧ InR l ns ∧ ∃ n m g A c, l.n = ((n : Nat) : Int) ∧ Stop l.es n m ∧ v = .tuple #[.pointer (some ⟨g, 0, none⟩), .bool true] ∧ Board h' g l A1 c1 A2 c2 A c (levs l.es n m) ∧ Ext h h') ∨ (¬ (May l ∧ InR l ns) ∧ v = .tuple #[.pointer none, .bool false] ∧ Ext h h')) := by
  refine Ct.enter (args := [.agg #[.int .i64 l.n, .slice A1 l.ls.length c1, .slice A2 l.es.length c2], .slice A3 ns.length c3]) Tryz.func50 rfl Tryz.ntmps50 (by simp) fun w hw => ?_
  -- at 080
  refine Run.adv 2 [] (at_ Tryz.f50 [0,8,0]) [(0, .agg #[.int .i64 l.n, .slice A1 l.ls.length c1, .slice A2 l.es.length c2]), (1, .slice A3 ns.length c3)]
    (True)
    (by as_aux_lemma => kernel_rfl) trivial fun s_ => ?_
  refine Run.new #[.int .i64 l.n, .slice A1 l.ls.length c1, .slice A2 l.es.length c2] 25 (fun g_ => .pointer (some ⟨g_, 0, none⟩)) (some 2) (at_ Tryz.f50 [0,8,1]) (by as_aux_lemma => kernel_rfl) fun g1 h1 hng1 hEg1 hBg1 => ?_
  -- at 1081
  refine Run.adv 6 [.val (.agg #[.int .i64 l.n, .slice A1 l.ls.length c1, .slice A2 l.es.length c2])] (at_ Tryz.f50 [1,0,8,1]) [(1, .slice A3 ns.length c3), (2, .pointer (some ⟨g1, 0, none⟩)), (11, .agg #[.int .i64 l.n, .slice A1 l.ls.length c1, .slice A2 l.es.length c2])]
    (cellsAt h1 ⟨g1, 0, none⟩ [.int .i64 l.n, .slice A1 l.ls.length c1, .slice A2 l.es.length c2] 0)
    (by as_aux_lemma => kernel_rfl) (hBg1.all (Ext.refl _)) fun s_ => ?_
  by_cases hm : May l
  rotate_left
  · refine Run.call 33 #[.agg #[.int .i64 l.n, .slice A1 l.ls.length c1, .slice A2 l.es.length c2]] (some 12) (at_ Tryz.f50 [1,0,8,2]) (by as_aux_lemma => kernel_rfl) (lofNo_ct A1 A2 c1 c2 l _ (hx.ext hEg1) hl hm) ?_
    rintro _ h2 ⟨rfl, hE2⟩
    -- at 110141
    refine Run.adv 18 [.lit] (at_ Tryz.f50 [1,1,0,1,4,1]) [(4, .pointer none), (5, .bool false)]
      (True)
      (by as_aux_lemma => kernel_rfl) trivial fun s_ => ?_
    refine Run.ret [] (.tuple #[.pointer none, .bool false]) (True) Tryz.func50 (by as_aux_lemma => kernel_rfl) (by as_aux_lemma => kernel_rfl) trivial ?_
    exact .inr ⟨fun hh => hm hh.1, rfl, (hEg1.trans hE2)⟩
  have hn1 := hm.n1
  have hn2 := hm.n2
  obtain ⟨n, hn⟩ := Int.eq_ofNat_of_zero_le (show 0 ≤ l.n by omega)
  refine Run.call 33 #[.agg #[.int .i64 l.n, .slice A1 l.ls.length c1, .slice A2 l.es.length c2]] (some 12) (at_ Tryz.f50 [1,0,8,2]) (by as_aux_lemma => kernel_rfl) (lofOk_ct A1 A2 c1 c2 l n _ (hx.ext hEg1) hm hn (hT.ext hEg1)) ?_
  rintro v h2 ⟨m, w2, og2, vs2, hS2, rfl, hO2, hN2, hE2⟩
  have hmn := hS2.lt (by omega)
  have hll := levs_len l.es n m
  obtain ⟨A4, c4, rfl, hr4⟩ := hO2.rows2 hN2 (by omega) (fun xs h => by
    unfold levs at h
    obtain ⟨k, -, rfl⟩ := List.mem_map.1 h
    rw [lev_len]; omega)
  have hE02 := hEg1.trans hE2
  -- at 111012
  refine Run.adv 22 [.lit] (at_ Tryz.f50 [1,1,1,0,1,2]) [(2, .pointer (some ⟨g1, 0, none⟩)), (6, .slice A4 ((levs l.es n m).length) c4), (17, .slice A3 ns.length c3), (18, .int .i64 (ns.length : Int)), (19, .int .i64 0)]
    (True)
    (by as_aux_lemma => kernel_rfl) trivial fun s_ => ?_
  refine Run.loop (at_ Tryz.f50 [1,1,1,0,1,2,3]) (at_ Tryz.f50 [1,1,1,0,1,2,7]) (fun i : Nat => [(2, .pointer (some ⟨g1, 0, none⟩)), (6, .slice A4 ((levs l.es n m).length) c4), (17, .slice A3 ns.length c3), (18, .int .i64 (ns.length : Int)), (19, .int .i64 (i : Int))])
    (fun i h' => h' = h2 ∧ i ≤ ns.length ∧ ∀ j : Nat, j < i → 0 ≤ rd ns j ∧ rd ns j < l.n) (fun i => ns.length - i) 0 (by as_aux_lemma => kernel_rfl) rfl ?_ ?_
  · exact ⟨rfl, Nat.zero_le _, fun j hj => by omega⟩
  rintro i s_ h' ⟨rfl, hi, hI⟩ again
  by_cases hlt : i < ns.length
  · obtain ⟨b, off, rfl, hp⟩ := hns.open_ (by omega)
    generalize hv : rd ns (i : Int) = v at *
    have hpe := hp _ hE02 (i : Int) (by omega) (by omega)
    rw [show ns.getD (i : Int).toNat 0 = v from hv] at hpe
    by_cases e1 : v < 0
    · -- at 111012311021141
      refine Run.adv 32 [.dec true, .val (.int .i64 v), .dec true, .lit, .lit, .lit, .lit] (at_ Tryz.f50 [1,1,1,0,1,2,3,1,1,0,2,1,1,4,1]) [(4, .pointer none), (5, .bool false)]
        ((decide ((i : Int) < (ns.length : Int))) = true ∧ (0 ≤ (i : Int) ∧ (i : Int) < (ns.length : Int)) ∧ cellH h' ⟨b, off + (i : Int).toNat, none⟩ = some (.int .i64 v) ∧ (decide (v < 0)) = true)
        (by as_aux_lemma => kernel_rfl) ⟨(by first | assumption | exact decide_eq_true (by first | omega | assumption)), ⟨by omega, by omega⟩, (by exact hpe), (by first | assumption | exact decide_eq_true (by first | omega | assumption))⟩ fun s_ => ?_
      refine Run.ret [] (.tuple #[.pointer none, .bool false]) (True) Tryz.func50 (by as_aux_lemma => kernel_rfl) (by as_aux_lemma => kernel_rfl) trivial ?_
      exact .inr ⟨fun hh => by have := (hh.2 i hlt).1; omega, rfl, hE02⟩
    · by_cases e2 : v ≥ l.n
      · -- at 111012311021141
        refine Run.adv 32 [.dec true, .val (.int .i64 v), .dec false, .lit, .lit, .val (.int .i64 l.n), .lit, .dec true] (at_ Tryz.f50 [1,1,1,0,1,2,3,1,1,0,2,1,1,4,1]) [(4, .pointer none), (5, .bool false)]
          ((decide ((i : Int) < (ns.length : Int))) = true ∧ (0 ≤ (i : Int) ∧ (i : Int) < (ns.length : Int)) ∧ cellH h' ⟨b, off + (i : Int).toNat, none⟩ = some (.int .i64 v) ∧ (decide (v < 0)) = false ∧ cellH h' ⟨g1, 0, none⟩ = some (.int .i64 l.n) ∧ (decide (v ≥ l.n)) = true)
          (by as_aux_lemma => kernel_rfl) ⟨(by first | assumption | exact decide_eq_true (by first | omega | assumption)), ⟨by omega, by omega⟩, (by exact hpe), (by first | assumption | exact decide_eq_false (by first | omega | assumption)), (hBg1.at hE2 0 rfl), (by first | assumption | exact decide_eq_true (by first | omega | assumption))⟩ fun s_ => ?_
        refine Run.ret [] (.tuple #[.pointer none, .bool false]) (True) Tryz.func50 (by as_aux_lemma => kernel_rfl) (by as_aux_lemma => kernel_rfl) trivial ?_
        exact .inr ⟨fun hh => by have := (hh.2 i hlt).2; omega, rfl, hE02⟩
      · -- at 1110127
        refine Run.adv 33 [.dec true, .val (.int .i64 v), .dec false, .lit, .lit, .val (.int .i64 l.n), .lit, .dec false] (at_ Tryz.f50 [1,1,1,0,1,2,7]) [(2, .pointer (some ⟨g1, 0, none⟩)), (6, .slice A4 ((levs l.es n m).length) c4), (17, .slice (some ⟨b, off, none⟩) ns.length c3), (18, .int .i64 (ns.length : Int)), (19, .int .i64 ((i + 1 : Nat) : Int))]
          ((decide ((i : Int) < (ns.length : Int))) = true ∧ (0 ≤ (i : Int) ∧ (i : Int) < (ns.length : Int)) ∧ cellH h' ⟨b, off + (i : Int).toNat, none⟩ = some (.int .i64 v) ∧ (decide (v < 0)) = false ∧ cellH h' ⟨g1, 0, none⟩ = some (.int .i64 l.n) ∧ (decide (v ≥ l.n)) = false ∧ (-9223372036854775808 ≤ (i : Int) + 1 ∧ (i : Int) + 1 ≤ 9223372036854775807))
          (by as_aux_lemma => kernel_rfl) ⟨(by first | assumption | exact decide_eq_true (by first | omega | assumption)), ⟨by omega, by omega⟩, (by exact hpe), (by first | assumption | exact decide_eq_false (by first | omega | assumption)), (hBg1.at hE2 0 rfl), (by first | assumption | exact decide_eq_false (by first | omega | assumption)), ⟨by omega, by omega⟩⟩ fun s_ => ?_
        refine again (i + 1) _ _ ⟨rfl, by omega, fun j hj => ?_⟩ (by omega)
        by_cases e3 : j = i
        · subst e3; rw [hv]; omega
        · exact hI j (by omega)
  · -- at 1111083
    refine Run.adv 12 [.dec false, .val (.agg #[.int .i64 l.n, .slice A1 l.ls.length c1, .slice A2 l.es.length c2])] (at_ Tryz.f50 [1,1,1,1,0,8,3]) [(34, .agg #[.int .i64 l.n, .slice A1 l.ls.length c1, .slice A2 l.es.length c2, .slice A4 ((levs l.es n m).length) c4])]
      ((decide ((i : Int) < (ns.length : Int))) = false ∧ cellsAt h' ⟨g1, 0, none⟩ [.int .i64 l.n, .slice A1 l.ls.length c1, .slice A2 l.es.length c2] 0)
      (by as_aux_lemma => kernel_rfl) ⟨(by first | assumption | exact decide_eq_false (by first | omega | assumption)), (hBg1.all hE2)⟩ fun s_ => ?_
    refine Run.new #[.int .i64 l.n, .slice A1 l.ls.length c1, .slice A2 l.es.length c2, .slice A4 ((levs l.es n m).length) c4] 86 (fun g_ => .pointer (some ⟨g_, 0, none⟩)) (some 35) (at_ Tryz.f50 [1,1,1,1,0,8,4]) (by as_aux_lemma => kernel_rfl) fun g5 h3 hng5 hEg5 hBg5 => ?_
    -- at 11111
    refine Run.adv 3 [] (at_ Tryz.f50 [1,1,1,1,1]) [(4, .pointer (some ⟨g5, 0, none⟩)), (5, .bool true)]
      (True)
      (by as_aux_lemma => kernel_rfl) trivial fun s_ => ?_
    refine Run.ret [] (.tuple #[.pointer (some ⟨g5, 0, none⟩), .bool true]) (True) Tryz.func50 (by as_aux_lemma => kernel_rfl) (by as_aux_lemma => kernel_rfl) trivial ?_
    exact .inl ⟨hm, fun j hj => hI j (by omega), n, m, g5, A4, c4, hn, hS2, rfl, ⟨hBg5, hx.ext (hE02.trans hEg5), hr4.ext hEg5⟩, hE02.trans hEg5⟩
/-- Has a move no right reply from a node? -/
noncomputable def hitB (l : Lt) (xss : List (List Int)) (t k : Int) (e : Ed) : Bool := decide (bestL xss e.2.2 (succL l.es t e.2.1) < 0 ∨ lateI xss e.2.2 (bestL xss e.2.2 (succL l.es t e.2.1)) < k)
/-- The first move from a node that has none. -/
noncomputable def attackL (l : Lt) (xss : List (List Int)) (s t k : Int) : Option Ed := (outL l.es s).find? (hitB l xss t k)
def attV : Option Ed → Value
  | some e => .tuple #[.agg #[.int .i64 e.1, .int .i64 e.2.1, .int .i64 e.2.2], .bool true]
  | none => .tuple #[.agg #[.int .i64 0, .int .i64 0, .int .i64 0], .bool false]
theorem attack_ct (g : Nat) (A1 A2 A : Option Addr) (c1 c2 c : Nat) (l : Lt) (xss : List (List Int)) (s t k : Int) (h : Heap) (hB : Board h g l A1 c1 A2 c2 A c xss) (hm : May l) :
    Ct Tryz.prog 72 #[.pointer (some ⟨g, 0, none⟩), .int .i64 s, .int .i64 t, .int .i64 k] h (fun v h' => v = attV (attackL l xss s t k) ∧ Ext h h') := by
  have hBg := hB.blk
  have hgl := hBg.lt
  have hlen := hm.len
  have hol := outL_len l.es s
  refine Ct.enter (args := [.pointer (some ⟨g, 0, none⟩), .int .i64 s, .int .i64 t, .int .i64 k]) Tryz.func72 rfl Tryz.ntmps72 (by simp) fun w hw => ?_
  -- at 080
  refine Run.adv 2 [] (at_ Tryz.f72 [0,8,0]) [(0, .pointer (some ⟨g, 0, none⟩)), (1, .int .i64 s), (2, .int .i64 t), (3, .int .i64 k)]
    (True)
    (by as_aux_lemma => kernel_rfl) trivial fun s_ => ?_
  refine Run.new #[.int .i64 0, .int .i64 0, .int .i64 0] 64 (fun g_ => .pointer (some ⟨g_, 0, none⟩)) (some 8) (at_ Tryz.f72 [0,8,1]) (by as_aux_lemma => kernel_rfl) fun g8 h1 hng8 hEg8 hBg8 => ?_
  -- at 10085
  refine Run.adv 10 [.val (.agg #[.int .i64 l.n, .slice A1 l.ls.length c1, .slice A2 l.es.length c2])] (at_ Tryz.f72 [1,0,0,8,5]) [(0, .pointer (some ⟨g, 0, none⟩)), (2, .int .i64 t), (3, .int .i64 k), (8, .pointer (some ⟨g8, 0, none⟩)), (16, .agg #[.int .i64 l.n, .slice A1 l.ls.length c1, .slice A2 l.es.length c2]), (17, .int .i64 s)]
    (cellsAt h1 ⟨g, 0, none⟩ [.int .i64 l.n, .slice A1 l.ls.length c1, .slice A2 l.es.length c2] 0)
    (by as_aux_lemma => kernel_rfl) (cellsAt_row (hBg.ext hEg8) _ _ _ (fun j hj => match j, hj with | 0, _ => rfl | 1, _ => rfl | 2, _ => rfl | _ + 3, hj => absurd hj (by simp only [List.length_cons, List.length_nil]; omega))) fun s_ => ?_
  refine Run.call 54 #[.agg #[.int .i64 l.n, .slice A1 l.ls.length c1, .slice A2 l.es.length c2], .int .i64 s] (some 18) (at_ Tryz.f72 [1,0,0,8,6]) (by as_aux_lemma => kernel_rfl) (Out_ct A1 A2 c1 c2 l s _ (hB.at_.ext hEg8) hm) ?_
  rintro v h2 ⟨A3, c3, rfl, hr3, hE2⟩
  have hE02 := hEg8.trans hE2
  -- at 1012
  refine Run.adv 4 [] (at_ Tryz.f72 [1,0,1,2]) [(0, .pointer (some ⟨g, 0, none⟩)), (2, .int .i64 t), (3, .int .i64 k), (8, .pointer (some ⟨g8, 0, none⟩)), (18, .slice A3 ((outL l.es s).length) c3), (19, .int .i64 ((outL l.es s).length : Int)), (20, .int .i64 0)]
    (True)
    (by as_aux_lemma => kernel_rfl) trivial fun s_ => ?_
  refine Run.loop (at_ Tryz.f72 [1,0,1,2,3]) (at_ Tryz.f72 [1,0,1,2,7]) (fun i : Nat => [(0, .pointer (some ⟨g, 0, none⟩)), (2, .int .i64 t), (3, .int .i64 k), (8, .pointer (some ⟨g8, 0, none⟩)), (18, .slice A3 ((outL l.es s).length) c3), (19, .int .i64 ((outL l.es s).length : Int)), (20, .int .i64 (i : Int))])
    (fun i h3 => i ≤ (outL l.es s).length ∧ (∀ j : Nat, j < i → hitB l xss t k ((outL l.es s).getD j (0, 0, 0)) = false) ∧ Ext h2 h3) (fun i => (outL l.es s).length - i) 0 (by as_aux_lemma => kernel_rfl) rfl ?_ ?_
  · exact ⟨Nat.zero_le _, fun j hj => by omega, Ext.refl _⟩
  rintro i s_ h3 ⟨hi, hI, hE⟩ again
  have hE03 := hE02.trans hE
  have hE13 := hE2.trans hE
  have hgl8 := hBg8.lt
  have hsz := hE13.size
  by_cases hlt : i < (outL l.es s).length
  · obtain ⟨b, off, rfl, hp⟩ := hr3.open_ (by omega)
    have hfa := find_at (0, 0, 0) (p := hitB l xss t k) hlt
    have hpe := hp _ hE (i : Int) (by omega) (by omega)
    rw [Int.toNat_natCast] at hpe
    generalize hed : (outL l.es s).getD i (0, 0, 0) = e at hfa hpe
    -- at 101231102082
    refine Run.adv 13 [.dec true, .val (.agg #[.int .i64 e.1, .int .i64 e.2.1, .int .i64 e.2.2])] (at_ Tryz.f72 [1,0,1,2,3,1,1,0,2,0,8,2]) [(0, .pointer (some ⟨g, 0, none⟩)), (2, .int .i64 t), (3, .int .i64 k), (8, .pointer (some ⟨g8, 0, none⟩)), (18, .slice (some ⟨b, off, none⟩) ((outL l.es s).length) c3), (19, .int .i64 ((outL l.es s).length : Int)), (20, .int .i64 (i : Int)), (23, .agg #[.int .i64 e.1, .int .i64 e.2.1, .int .i64 e.2.2])]
      ((decide ((i : Int) < ((outL l.es s).length : Int))) = true ∧ (0 ≤ (i : Int) ∧ (i : Int) < ((outL l.es s).length : Int)) ∧ cellsAt h3 ⟨b, off + (i : Int).toNat * 3, none⟩ [.int .i64 e.1, .int .i64 e.2.1, .int .i64 e.2.2] 0)
      (by as_aux_lemma => kernel_rfl) ⟨(by first | assumption | exact decide_eq_true (by first | omega | assumption)), ⟨by omega, by omega⟩, (by rw [Int.toNat_natCast]; exact hpe)⟩ fun s_ => ?_
    refine Run.new #[.int .i64 0, .int .i64 0, .int .i64 0] 64 (fun g_ => .pointer (some ⟨g_, 0, none⟩)) (some 11) (at_ Tryz.f72 [1,0,1,2,3,1,1,0,2,0,8,3]) (by as_aux_lemma => kernel_rfl) fun g3 h4 hng3 hEg3 hBg3 => ?_
    refine Run.store g3 0 [.int .i64 e.1, .int .i64 e.2.1, .int .i64 e.2.2] (at_ Tryz.f72 [1,0,1,2,3,1,1,0,2,0,8,4]) (by as_aux_lemma => kernel_rfl) (hBg3.ext (Ext.refl _)) (by simp) rfl fun h5 hMh5 hzh5 (hBg3_h5 : Blk h5 g3 #[.int .i64 e.1, .int .i64 e.2.1, .int .i64 e.2.2] 64) => ?_
    have hE05 := (hMh5.ext_new (hE03.trans hEg3) hng3 hE03)
    have hE15 := (hMh5.ext_new (hE13.trans hEg3) hng3 hE13)
    have hE25 := (hMh5.ext_new (hE.trans hEg3) hng3 hE)
    -- at 1012311021083
    refine Run.adv 6 [.val (.agg #[.int .i64 e.1, .int .i64 e.2.1, .int .i64 e.2.2])] (at_ Tryz.f72 [1,0,1,2,3,1,1,0,2,1,0,8,3]) [(0, .pointer (some ⟨g, 0, none⟩)), (2, .int .i64 t), (3, .int .i64 k), (8, .pointer (some ⟨g8, 0, none⟩)), (11, .pointer (some ⟨g3, 0, none⟩)), (18, .slice (some ⟨b, off, none⟩) ((outL l.es s).length) c3), (19, .int .i64 ((outL l.es s).length : Int)), (20, .int .i64 (i : Int)), (23, .agg #[.int .i64 e.1, .int .i64 e.2.1, .int .i64 e.2.2]), (24, .pointer (some ⟨g, 0, none⟩)), (25, .int .i64 t), (26, .agg #[.int .i64 e.1, .int .i64 e.2.1, .int .i64 e.2.2])]
      (cellsAt h5 ⟨g3, 0, none⟩ [.int .i64 e.1, .int .i64 e.2.1, .int .i64 e.2.2] 0)
      (by as_aux_lemma => kernel_rfl) (hBg3_h5.all (Ext.refl _)) fun s_ => ?_
    refine Run.call 55 #[.pointer (some ⟨g, 0, none⟩), .int .i64 t, .agg #[.int .i64 e.1, .int .i64 e.2.1, .int .i64 e.2.2]] (some 27) (at_ Tryz.f72 [1,0,1,2,3,1,1,0,2,1,0,8,4]) (by as_aux_lemma => kernel_rfl) (reply_ct g A1 A2 A c1 c2 c l xss t e.1 e.2.1 e.2.2 _ (hB.ext hE05) hm) ?_
    rintro _ h6 ⟨rfl, hE6⟩
    have hhit : hitB l xss t k e = decide (bestL xss e.2.2 (succL l.es t e.2.1) < 0 ∨ lateI xss e.2.2 (bestL xss e.2.2 (succL l.es t e.2.1)) < k) := rfl
    generalize bestL xss e.2.2 (succL l.es t e.2.1) = r at hhit
    by_cases e1 : r < 0
    · have hh : hitB l xss t k e = true := by rw [hhit]; exact decide_eq_true (.inl e1)
      -- at 1012311021114081
      refine Run.adv 20 [.dec true, .lit, .lit, .lit, .lit, .lit, .lit, .lit, .val (.agg #[.int .i64 e.1, .int .i64 e.2.1, .int .i64 e.2.2])] (at_ Tryz.f72 [1,0,1,2,3,1,1,0,2,1,1,1,4,0,8,1]) [(8, .pointer (some ⟨g8, 0, none⟩)), (39, .agg #[.int .i64 e.1, .int .i64 e.2.1, .int .i64 e.2.2])]
        ((decide (r < 0)) = true ∧ cellsAt h6 ⟨g3, 0, none⟩ [.int .i64 e.1, .int .i64 e.2.1, .int .i64 e.2.2] 0)
        (by as_aux_lemma => kernel_rfl) ⟨(by first | assumption | exact decide_eq_true (by first | omega | assumption)), (hBg3_h5.all hE6)⟩ fun s_ => ?_
      refine Run.store g8 0 [.int .i64 e.1, .int .i64 e.2.1, .int .i64 e.2.2] (at_ Tryz.f72 [1,0,1,2,3,1,1,0,2,1,1,1,4,0,8,2]) (by as_aux_lemma => kernel_rfl) (hBg8.ext ((hMh5.ext_new (hE13.trans hEg3) hng3 hE13).trans hE6)) (by simp) rfl fun h8 hMh8 hzh8 (hBg8_h8 : Blk h8 g8 #[.int .i64 e.1, .int .i64 e.2.1, .int .i64 e.2.2] 64) => ?_
      have hBg_h8 := hMh8.blk (hBg.ext ((hMh5.ext_new (hE03.trans hEg3) hng3 hE03).trans hE6)) (by simp only [ne_eq, Option.some.injEq]; omega)
      have hBg3_h8 := hMh8.blk (hBg3_h5.ext hE6) (by simp only [ne_eq, Option.some.injEq]; omega)
      -- at 10123110211141
      refine Run.adv 2 [] (at_ Tryz.f72 [1,0,1,2,3,1,1,0,2,1,1,1,4,1]) [(8, .pointer (some ⟨g8, 0, none⟩)), (9, .bool true)]
        (True)
        (by as_aux_lemma => kernel_rfl) trivial fun s_ => ?_
      refine Run.ret [.agg #[.int .i64 e.1, .int .i64 e.2.1, .int .i64 e.2.2]] (.tuple #[.agg #[.int .i64 e.1, .int .i64 e.2.1, .int .i64 e.2.2], .bool true]) (cellsAt h8 ⟨g8, 0, none⟩ [.int .i64 e.1, .int .i64 e.2.1, .int .i64 e.2.2] 0) Tryz.func72 (by as_aux_lemma => kernel_rfl) (by as_aux_lemma => kernel_rfl) (hBg8_h8.all (Ext.refl _)) ?_
      refine ⟨?_, hMh8.ext_new ((hE05.trans hE6)) hng8 (Ext.refl _)⟩
      rw [attackL, hfa hh hI]; rfl
    · -- at 10123110211087
      refine Run.adv 11 [.dec false, .lit, .lit, .val (.int .i64 e.2.2), .lit] (at_ Tryz.f72 [1,0,1,2,3,1,1,0,2,1,1,0,8,7]) [(0, .pointer (some ⟨g, 0, none⟩)), (2, .int .i64 t), (3, .int .i64 k), (8, .pointer (some ⟨g8, 0, none⟩)), (11, .pointer (some ⟨g3, 0, none⟩)), (12, .int .i64 r), (18, .slice (some ⟨b, off, none⟩) ((outL l.es s).length) c3), (19, .int .i64 ((outL l.es s).length : Int)), (20, .int .i64 (i : Int)), (23, .agg #[.int .i64 e.1, .int .i64 e.2.1, .int .i64 e.2.2]), (24, .pointer (some ⟨g, 0, none⟩)), (25, .int .i64 t), (26, .agg #[.int .i64 e.1, .int .i64 e.2.1, .int .i64 e.2.2]), (27, .int .i64 r), (28, .int .i64 r), (29, .bool (decide (r < 0))), (30, .bool false), (31, .pointer (some ⟨g, 0, none⟩)), (32, .pointer (some ⟨g3, 2, none⟩)), (33, .int .i64 e.2.2), (34, .int .i64 r)]
        ((decide (r < 0)) = false ∧ cellH h6 ⟨g3, 2, none⟩ = some (.int .i64 e.2.2))
        (by as_aux_lemma => kernel_rfl) ⟨(by first | assumption | exact decide_eq_false (by first | omega | assumption)), (hBg3_h5.at hE6 2 rfl)⟩ fun s_ => ?_
      refine Run.call 51 #[.pointer (some ⟨g, 0, none⟩), .int .i64 e.2.2, .int .i64 r] (some 35) (at_ Tryz.f72 [1,0,1,2,3,1,1,0,2,1,1,0,8,8]) (by as_aux_lemma => kernel_rfl) (late_ct g A1 A2 A c1 c2 c l xss e.2.2 r _ (hB.ext (hE05.trans hE6))) ?_
      rintro _ h7 ⟨rfl, hE7⟩
      by_cases e2 : lateI xss e.2.2 r < k
      · have hh : hitB l xss t k e = true := by rw [hhit]; exact decide_eq_true (.inr e2)
        -- at 1012311021114081
        refine Run.adv 8 [.lit, .lit, .dec true, .val (.agg #[.int .i64 e.1, .int .i64 e.2.1, .int .i64 e.2.2])] (at_ Tryz.f72 [1,0,1,2,3,1,1,0,2,1,1,1,4,0,8,1]) [(8, .pointer (some ⟨g8, 0, none⟩)), (39, .agg #[.int .i64 e.1, .int .i64 e.2.1, .int .i64 e.2.2])]
          ((decide (lateI xss e.2.2 r < k)) = true ∧ cellsAt h7 ⟨g3, 0, none⟩ [.int .i64 e.1, .int .i64 e.2.1, .int .i64 e.2.2] 0)
          (by as_aux_lemma => kernel_rfl) ⟨(by first | assumption | exact decide_eq_true (by first | omega | assumption)), (hBg3_h5.all (hE6.trans hE7))⟩ fun s_ => ?_
        refine Run.store g8 0 [.int .i64 e.1, .int .i64 e.2.1, .int .i64 e.2.2] (at_ Tryz.f72 [1,0,1,2,3,1,1,0,2,1,1,1,4,0,8,2]) (by as_aux_lemma => kernel_rfl) (hBg8.ext (((hMh5.ext_new (hE13.trans hEg3) hng3 hE13).trans hE6).trans hE7)) (by simp) rfl fun h8 hMh8 hzh8 (hBg8_h8 : Blk h8 g8 #[.int .i64 e.1, .int .i64 e.2.1, .int .i64 e.2.2] 64) => ?_
        have hBg_h8 := hMh8.blk (hBg.ext (((hMh5.ext_new (hE03.trans hEg3) hng3 hE03).trans hE6).trans hE7)) (by simp only [ne_eq, Option.some.injEq]; omega)
        have hBg3_h8 := hMh8.blk (hBg3_h5.ext (hE6.trans hE7)) (by simp only [ne_eq, Option.some.injEq]; omega)
        -- at 10123110211141
        refine Run.adv 2 [] (at_ Tryz.f72 [1,0,1,2,3,1,1,0,2,1,1,1,4,1]) [(8, .pointer (some ⟨g8, 0, none⟩)), (9, .bool true)]
          (True)
          (by as_aux_lemma => kernel_rfl) trivial fun s_ => ?_
        refine Run.ret [.agg #[.int .i64 e.1, .int .i64 e.2.1, .int .i64 e.2.2]] (.tuple #[.agg #[.int .i64 e.1, .int .i64 e.2.1, .int .i64 e.2.2], .bool true]) (cellsAt h8 ⟨g8, 0, none⟩ [.int .i64 e.1, .int .i64 e.2.1, .int .i64 e.2.2] 0) Tryz.func72 (by as_aux_lemma => kernel_rfl) (by as_aux_lemma => kernel_rfl) (hBg8_h8.all (Ext.refl _)) ?_
        refine ⟨?_, hMh8.ext_new ((hE05.trans hE6).trans hE7) hng8 (Ext.refl _)⟩
        rw [attackL, hfa hh hI]; rfl
      · have hh : hitB l xss t k e = false := by rw [hhit]; exact decide_eq_false (fun hh => hh.elim e1 e2)
        -- at 10127
        refine Run.adv 11 [.lit, .lit, .dec false] (at_ Tryz.f72 [1,0,1,2,7]) [(0, .pointer (some ⟨g, 0, none⟩)), (2, .int .i64 t), (3, .int .i64 k), (8, .pointer (some ⟨g8, 0, none⟩)), (18, .slice (some ⟨b, off, none⟩) ((outL l.es s).length) c3), (19, .int .i64 ((outL l.es s).length : Int)), (20, .int .i64 ((i + 1 : Nat) : Int))]
          ((decide (lateI xss e.2.2 r < k)) = false ∧ (-9223372036854775808 ≤ (i : Int) + 1 ∧ (i : Int) + 1 ≤ 9223372036854775807))
          (by as_aux_lemma => kernel_rfl) ⟨(by first | assumption | exact decide_eq_false (by first | omega | assumption)), ⟨by omega, by omega⟩⟩ fun s_ => ?_
        refine again (i + 1) _ _ ⟨by omega, fun j hj => ?_, (hE25.trans hE6).trans hE7⟩ (by omega)
        by_cases e3 : j = i
        · subst e3; rw [hed]; exact hh
        · exact hI j (by omega)
  · -- at 11081
    refine Run.adv 10 [.dec false] (at_ Tryz.f72 [1,1,0,8,1]) [(8, .pointer (some ⟨g8, 0, none⟩)), (41, .agg #[.int .i64 0, .int .i64 0, .int .i64 0])]
      ((decide ((i : Int) < ((outL l.es s).length : Int))) = false)
      (by as_aux_lemma => kernel_rfl) (by first | assumption | exact decide_eq_false (by first | omega | assumption)) fun s_ => ?_
    refine Run.store g8 0 [.int .i64 0, .int .i64 0, .int .i64 0] (at_ Tryz.f72 [1,1,0,8,2]) (by as_aux_lemma => kernel_rfl) (hBg8.ext hE13) (by simp) rfl fun h8 hMh8 hzh8 (hBg8_h8 : Blk h8 g8 #[.int .i64 0, .int .i64 0, .int .i64 0] 64) => ?_
    have hBg_h8 := hMh8.blk (hBg.ext hE03) (by simp only [ne_eq, Option.some.injEq]; omega)
    -- at 111
    refine Run.adv 2 [] (at_ Tryz.f72 [1,1,1]) [(8, .pointer (some ⟨g8, 0, none⟩)), (9, .bool false)]
      (True)
      (by as_aux_lemma => kernel_rfl) trivial fun s_ => ?_
    refine Run.ret [.agg #[.int .i64 0, .int .i64 0, .int .i64 0]] (.tuple #[.agg #[.int .i64 0, .int .i64 0, .int .i64 0], .bool false]) (cellsAt h8 ⟨g8, 0, none⟩ [.int .i64 0, .int .i64 0, .int .i64 0] 0) Tryz.func72 (by as_aux_lemma => kernel_rfl) (by as_aux_lemma => kernel_rfl) (hBg8_h8.all (Ext.refl _)) ?_
    refine ⟨?_, hMh8.ext_new hE03 hng8 (Ext.refl _)⟩
    rw [attackL, find_no (0, 0, 0) (fun j hj => hI j (by omega))]; rfl
end Go.Proofs.YtbajgbkkbabmlaaGreatDoor
