/- A round, a game, walked. -/
import Derived.Test.YtbajgbkkbabmlaaGreatDoorProg
import Derived.Test.YtbajgbkkbabmlaaGreatDoorO4
set_option linter.unusedVariables false
namespace Go.Proofs.YtbajgbkkbabmlaaGreatDoor
open Go.Vc

theorem round_ct (g : Nat) (A1 A2 A : Option Addr) (c1 c2 c : Nat) (l : Lt) (xss : List (List Int)) (s t : Int) (h : Heap) (hB : Board h g l A1 c1 A2 c2 A c xss) (hm : May l)
    (ho : attackL l xss s t (lateI xss s t) = none → attackL l xss t s (lateI xss s t) = none → False) :
    Ct Tryz.prog 52 #[.pointer (some ⟨g, 0, none⟩), .int .i64 s, .int .i64 t] h (fun v h' => v = .tuple #[.agg (encR (roundL l xss s t).1).toArray, .int .i64 (roundL l xss s t).2.1, .int .i64 (roundL l xss s t).2.2] ∧ Ext h h') := by
  have hBg := hB.blk
  have hgl := hBg.lt
  have hlen := hm.len
  refine Ct.enter (args := [.pointer (some ⟨g, 0, none⟩), .int .i64 s, .int .i64 t]) Tryz.func52 rfl Tryz.ntmps52 (by simp) fun w hw => ?_
  -- at 080
  refine Run.adv 2 [] (at_ Tryz.f52 [0,8,0]) [(0, .pointer (some ⟨g, 0, none⟩)), (1, .int .i64 s), (2, .int .i64 t)]
    (True)
    (by as_aux_lemma => kernel_rfl) trivial fun s_ => ?_
  refine Run.new #[.int .i64 0, .string ⟨#[]⟩, .int .i64 0, .int .i64 0] 51 (fun g_ => .pointer (some ⟨g_, 0, none⟩)) (some 6) (at_ Tryz.f52 [0,8,1]) (by as_aux_lemma => kernel_rfl) fun g6 h1 hng6 hEg6 hBg6 => ?_
  have hO6 := Own.of_blk (sz := 4) (n := 1) hBg6 rfl
  have hgl6 := hBg6.lt
  have hs1 := hEg6.size
  -- at 1083
  refine Run.adv 8 [] (at_ Tryz.f52 [1,0,8,3]) [(0, .pointer (some ⟨g, 0, none⟩)), (1, .int .i64 s), (2, .int .i64 t), (6, .pointer (some ⟨g6, 0, none⟩)), (7, .int .i64 0), (8, .int .i64 0), (16, .pointer (some ⟨g, 0, none⟩)), (17, .int .i64 s), (18, .int .i64 t)]
    (True)
    (by as_aux_lemma => kernel_rfl) trivial fun s_ => ?_
  refine Run.call 51 #[.pointer (some ⟨g, 0, none⟩), .int .i64 s, .int .i64 t] (some 19) (at_ Tryz.f52 [1,0,8,4]) (by as_aux_lemma => kernel_rfl) (late_ct g A1 A2 A c1 c2 c l xss s t _ (hB.ext hEg6)) ?_
  rintro _ h2 ⟨rfl, hE2⟩
  have hE02 := hEg6.trans hE2
  have hrl : ∀ k, k = lateI xss s t → roundL l xss s t = (match attackL l xss s t k with
    | some e => ((1, sd l.ls e.2.1, e.2.2, bestL xss e.2.2 (succL l.es t e.2.1)), e.2.2, bestL xss e.2.2 (succL l.es t e.2.1))
    | none => match attackL l xss t s k with
      | some e => ((2, sd l.ls e.2.1, e.2.2, bestL xss e.2.2 (succL l.es s e.2.1)), bestL xss e.2.2 (succL l.es s e.2.1), e.2.2)
      | none => ((0, ByteArray.empty, 0, 0), 0, 0)) := fun k hk => by subst hk; rfl
  obtain ⟨k, hk⟩ : ∃ k, lateI xss s t = k := ⟨_, rfl⟩
  have hrk := hrl k hk.symm
  rw [hk] at ho ⊢
  have hrow : ∀ e : Ed, e ∈ l.es → 0 ≤ e.2.1 ∧ e.2.1 < l.ls.length := fun e he => by
    have := may_edge hm he
    unfold EdgeMay at this
    omega
  cases hat : attackL l xss s t k with
  | some e =>
  rw [hat] at hrk
  simp only at hrk
  obtain ⟨he, -, -⟩ := attack_some hat
  obtain ⟨hr1, hr2⟩ := hrow e he
  obtain ⟨b, off, hA1, hpl⟩ := hB.at_.ls.open_ (by omega)
  subst hA1
  -- at 110084
  refine Run.adv 9 [] (at_ Tryz.f52 [1,1,0,0,8,4]) [(0, .pointer (some ⟨g, 0, none⟩)), (1, .int .i64 s), (2, .int .i64 t), (6, .pointer (some ⟨g6, 0, none⟩)), (7, .int .i64 0), (8, .int .i64 0), (9, .int .i64 k), (16, .pointer (some ⟨g, 0, none⟩)), (17, .int .i64 s), (18, .int .i64 t), (19, .int .i64 k), (21, .pointer (some ⟨g, 0, none⟩)), (22, .int .i64 s), (23, .int .i64 t), (24, .int .i64 k)]
    (True)
    (by as_aux_lemma => kernel_rfl) trivial fun s_ => ?_
  refine Run.call 72 #[.pointer (some ⟨g, 0, none⟩), .int .i64 s, .int .i64 t, .int .i64 k] (some 25) (at_ Tryz.f52 [1,1,0,0,8,5]) (by as_aux_lemma => kernel_rfl) ((attack_ct g (some ⟨b, off, none⟩) A2 A c1 c2 c l xss s t k _ (hB.ext hE02) hm).is (by rw [hat, attV])) ?_
  rintro _ h3 ⟨rfl, hE3⟩
  have hE03 := hE02.trans hE3
  have hE13 := (hE2.trans hE3)
  -- at 110088
  refine Run.adv 3 [] (at_ Tryz.f52 [1,1,0,0,8,8]) [(0, .pointer (some ⟨g, 0, none⟩)), (1, .int .i64 s), (2, .int .i64 t), (6, .pointer (some ⟨g6, 0, none⟩)), (7, .int .i64 0), (8, .int .i64 0), (9, .int .i64 k), (16, .pointer (some ⟨g, 0, none⟩)), (17, .int .i64 s), (18, .int .i64 t), (19, .int .i64 k), (20, .tuple #[.agg #[.int .i64 e.1, .int .i64 e.2.1, .int .i64 e.2.2], .bool true]), (21, .pointer (some ⟨g, 0, none⟩)), (22, .int .i64 s), (23, .int .i64 t), (24, .int .i64 k), (25, .tuple #[.agg #[.int .i64 e.1, .int .i64 e.2.1, .int .i64 e.2.2], .bool true]), (26, .agg #[.int .i64 e.1, .int .i64 e.2.1, .int .i64 e.2.2]), (27, .bool true)]
    (True)
    (by as_aux_lemma => kernel_rfl) trivial fun s_ => ?_
  refine Run.new #[.int .i64 0, .int .i64 0, .int .i64 0] 64 (fun g_ => .pointer (some ⟨g_, 0, none⟩)) (some 10) (at_ Tryz.f52 [1,1,0,0,8,9]) (by as_aux_lemma => kernel_rfl) fun g10 h4 hng10 hEg10 hBg10 => ?_
  refine Run.store g10 0 [.int .i64 e.1, .int .i64 e.2.1, .int .i64 e.2.2] (at_ Tryz.f52 [1,1,0,0,8,10]) (by as_aux_lemma => kernel_rfl) (hBg10.ext (Ext.refl _)) (by simp) rfl fun h5 hMh5 hzh5 (hBg10_h5 : Blk h5 g10 #[.int .i64 e.1, .int .i64 e.2.1, .int .i64 e.2.2] 64) => ?_
  have hE35 := (hMh5.ext_new hEg10 hng10 (Ext.refl _))
  -- at 110114083
  refine Run.adv 12 [.lit, .val (.agg #[.int .i64 e.1, .int .i64 e.2.1, .int .i64 e.2.2])] (at_ Tryz.f52 [1,1,0,1,1,4,0,8,3]) [(0, .pointer (some ⟨g, 0, none⟩)), (1, .int .i64 s), (2, .int .i64 t), (6, .pointer (some ⟨g6, 0, none⟩)), (7, .int .i64 0), (8, .int .i64 0), (9, .int .i64 k), (10, .pointer (some ⟨g10, 0, none⟩)), (11, .bool true), (16, .pointer (some ⟨g, 0, none⟩)), (17, .int .i64 s), (18, .int .i64 t), (19, .int .i64 k), (20, .tuple #[.agg #[.int .i64 e.1, .int .i64 e.2.1, .int .i64 e.2.2], .bool true]), (21, .pointer (some ⟨g, 0, none⟩)), (22, .int .i64 s), (23, .int .i64 t), (24, .int .i64 k), (25, .tuple #[.agg #[.int .i64 e.1, .int .i64 e.2.1, .int .i64 e.2.2], .bool true]), (26, .agg #[.int .i64 e.1, .int .i64 e.2.1, .int .i64 e.2.2]), (27, .bool true), (28, .bool true), (29, .pointer (some ⟨g, 0, none⟩)), (30, .int .i64 t), (31, .agg #[.int .i64 e.1, .int .i64 e.2.1, .int .i64 e.2.2])]
    (cellsAt h5 ⟨g10, 0, none⟩ [.int .i64 e.1, .int .i64 e.2.1, .int .i64 e.2.2] 0)
    (by as_aux_lemma => kernel_rfl) (hBg10_h5.all (Ext.refl _)) fun s_ => ?_
  refine Run.call 55 #[.pointer (some ⟨g, 0, none⟩), .int .i64 t, .agg #[.int .i64 e.1, .int .i64 e.2.1, .int .i64 e.2.2]] (some 32) (at_ Tryz.f52 [1,1,0,1,1,4,0,8,4]) (by as_aux_lemma => kernel_rfl) (reply_ct g (some ⟨b, off, none⟩) A2 A c1 c2 c l xss t e.1 e.2.1 e.2.2 _ (hB.ext (hE03.trans hE35)) hm) ?_
  rintro _ h6 ⟨rfl, hE6⟩
  obtain ⟨r, hr⟩ : ∃ r, bestL xss e.2.2 (succL l.es t e.2.1) = r := ⟨_, rfl⟩
  rw [hr]
  have hE06 := (hE03.trans hE35).trans hE6
  have hE16 := (hE13.trans hE35).trans hE6
  have hsz := hE13.size
  have hz3 := hE35.size
  have hz6 := hE6.size
  have hlg := hBg10_h5.lt
  -- at 11011410
  refine Run.adv 3 [] (at_ Tryz.f52 [1,1,0,1,1,4,1,0]) [(0, .pointer (some ⟨g, 0, none⟩)), (6, .pointer (some ⟨g6, 0, none⟩)), (10, .pointer (some ⟨g10, 0, none⟩)), (12, .int .i64 r)]
    (True)
    (by as_aux_lemma => kernel_rfl) trivial fun s_ => ?_
  refine Run.any (opsAt (at_ Tryz.f52 [1,1,0,1,1,4,1,0])) (at_ Tryz.f52 [1,1,0,1,1,4,1,1]) (fun H => Mod (some g6) h6 H) [0, 1, 2, 3, 4, 5, 6, 7, 8, 9, 10, 11, 12, 13, 14, 15, 17, 18] [0, 1, 2, 3, 4, 5, 6, 7, 8, 9, 10, 11, 12, 13, 14, 15] [.val (.slice (some ⟨b, off, none⟩) l.ls.length c1), .val (.int .i64 e.2.1), .val (.string (sd l.ls e.2.1)), .val (.int .i64 e.2.2), .val (.int .i64 e.2.2)] #[true, true, true, true, true, true, true, true, true, true, true, true, true, true, true, true, false, false, false] [(0, .pointer (some ⟨g, 0, none⟩)), (6, .pointer (some ⟨g6, 0, none⟩)), (10, .pointer (some ⟨g10, 0, none⟩)), (12, .int .i64 r), (33, .pointer (some ⟨g, 0, none⟩)), (34, .pointer (some ⟨g, 0, none⟩)), (35, .pointer (some ⟨g, 0, none⟩)), (36, .pointer (some ⟨g, 1, none⟩)), (37, .slice (some ⟨b, off, none⟩) l.ls.length c1), (38, .pointer (some ⟨g10, 1, none⟩)), (39, .int .i64 e.2.1), (40, .pointer (some ⟨b, off + e.2.1.toNat, none⟩)), (41, .string (sd l.ls e.2.1)), (42, .pointer (some ⟨g10, 2, none⟩)), (43, .int .i64 e.2.2), (44, .int .i64 r), (45, .agg #[.int .i64 1, .string (sd l.ls e.2.1), .int .i64 e.2.2, .int .i64 r]), (46, .pointer (some ⟨g10, 2, none⟩)), (47, .int .i64 e.2.2), (48, .int .i64 r)]
    (fun H => cellH H ⟨g, 1, none⟩ = some (.slice (some ⟨b, off, none⟩) l.ls.length c1) ∧ cellH H ⟨g10, 1, none⟩ = some (.int .i64 e.2.1) ∧ (0 ≤ e.2.1 ∧ e.2.1 < (l.ls.length : Int)) ∧ cellH H ⟨b, off + e.2.1.toNat, none⟩ = some (.string (sd l.ls e.2.1)) ∧ cellH H ⟨g10, 2, none⟩ = some (.int .i64 e.2.2) ∧ cellH H ⟨g10, 2, none⟩ = some (.int .i64 e.2.2)) 3 (by as_aux_lemma => kernel_rfl) (by as_aux_lemma => kernel_rfl) ((Ext.refl _).mod _)
    (by as_aux_lemma => kernel_rfl) (fun H hC => ⟨((hC.blk (hBg.ext ((hMh5.ext_new (((hEg6.trans hE2).trans hE3).trans hEg10) hng10 ((hEg6.trans hE2).trans hE3)).trans hE6)) (by simp only [ne_eq, Option.some.injEq]; omega)).at (Ext.refl _) 1 rfl), ((hC.blk (hBg10_h5.ext hE6) (by simp only [ne_eq, Option.some.injEq]; omega)).at (Ext.refl _) 1 rfl), ⟨by omega, by omega⟩, (hpl _ (hC.ext ((hMh5.ext_new (((hEg6.trans hE2).trans hE3).trans hEg10) hng10 ((hEg6.trans hE2).trans hE3)).trans hE6) (by exact fun g' e => by cases e; omega)) e.2.1 (by omega) (by omega)), ((hC.blk (hBg10_h5.ext hE6) (by simp only [ne_eq, Option.some.injEq]; omega)).at (Ext.refl _) 2 rfl), ((hC.blk (hBg10_h5.ext hE6) (by simp only [ne_eq, Option.some.injEq]; omega)).at (Ext.refl _) 2 rfl)⟩) fun s_ => ?_
  refine RunA.storeOwn 2 g6 0 [.int .i64 1, .string (sd l.ls e.2.1), .int .i64 e.2.2, .int .i64 r] false #[true, true, true, true, true, true, true, true, true, true, true, true, true, true, true, true, true, false, false] (by as_aux_lemma => kernel_rfl) (hO6.ext hE16) (by simp) rfl fun h7 hMh7 hzh7 hOh7 => ⟨fun _ => (((Ext.refl _).mod _).trans hMh7), ?_⟩
  refine RunA.adv [17, 18] [] #[true, true, true, true, true, true, true, true, true, true, true, true, true, true, true, true, true, true, true] [(0, .pointer (some ⟨g, 0, none⟩)), (6, .pointer (some ⟨g6, 0, none⟩)), (7, .int .i64 e.2.2), (8, .int .i64 r), (10, .pointer (some ⟨g10, 0, none⟩)), (12, .int .i64 r), (33, .pointer (some ⟨g, 0, none⟩)), (34, .pointer (some ⟨g, 0, none⟩)), (35, .pointer (some ⟨g, 0, none⟩)), (36, .pointer (some ⟨g, 1, none⟩)), (37, .slice (some ⟨b, off, none⟩) l.ls.length c1), (38, .pointer (some ⟨g10, 1, none⟩)), (39, .int .i64 e.2.1), (40, .pointer (some ⟨b, off + e.2.1.toNat, none⟩)), (41, .string (sd l.ls e.2.1)), (42, .pointer (some ⟨g10, 2, none⟩)), (43, .int .i64 e.2.2), (44, .int .i64 r), (45, .agg #[.int .i64 1, .string (sd l.ls e.2.1), .int .i64 e.2.2, .int .i64 r]), (46, .pointer (some ⟨g10, 2, none⟩)), (47, .int .i64 e.2.2), (48, .int .i64 r)]
    (fun H => True) 0 (by as_aux_lemma => kernel_rfl) (((Ext.refl _).mod _).trans hMh7)
    (by as_aux_lemma => kernel_rfl) (fun H hC => trivial) fun s_ => ?_
  refine RunA.done [(0, .pointer (some ⟨g, 0, none⟩)), (6, .pointer (some ⟨g6, 0, none⟩)), (7, .int .i64 e.2.2), (8, .int .i64 r), (10, .pointer (some ⟨g10, 0, none⟩)), (12, .int .i64 r), (33, .pointer (some ⟨g, 0, none⟩)), (34, .pointer (some ⟨g, 0, none⟩)), (35, .pointer (some ⟨g, 0, none⟩)), (36, .pointer (some ⟨g, 1, none⟩)), (37, .slice (some ⟨b, off, none⟩) l.ls.length c1), (38, .pointer (some ⟨g10, 1, none⟩)), (39, .int .i64 e.2.1), (40, .pointer (some ⟨b, off + e.2.1.toNat, none⟩)), (41, .string (sd l.ls e.2.1)), (42, .pointer (some ⟨g10, 2, none⟩)), (43, .int .i64 e.2.2), (44, .int .i64 r), (45, .agg #[.int .i64 1, .string (sd l.ls e.2.1), .int .i64 e.2.2, .int .i64 r]), (46, .pointer (some ⟨g10, 2, none⟩)), (47, .int .i64 e.2.2), (48, .int .i64 r)] (by as_aux_lemma => kernel_rfl) (by as_aux_lemma => kernel_rfl) fun s_ => ?_
  refine Run.ret [.agg #[.int .i64 1, .string (sd l.ls e.2.1), .int .i64 e.2.2, .int .i64 r]] (.tuple #[.agg #[.int .i64 1, .string (sd l.ls e.2.1), .int .i64 e.2.2, .int .i64 r], .int .i64 e.2.2, .int .i64 r]) (cellsAt h7 ⟨g6, 0, none⟩ [.int .i64 1, .string (sd l.ls e.2.1), .int .i64 e.2.2, .int .i64 r] 0) Tryz.func52 (by as_aux_lemma => kernel_rfl) (by as_aux_lemma => kernel_rfl) (hOh7.cells _ _ 0 (fun j hj => match j, hj with | 0, _ => rfl | 1, _ => rfl | 2, _ => rfl | 3, _ => rfl | _ + 4, hj => absurd hj (by simp))) ?_
  refine ⟨?_, hMh7.ext_new hE06 hng6 (Ext.refl _)⟩
  rw [hrk, hr]; rfl
  | none =>
  cases hat2 : attackL l xss t s k with
  | none => exact absurd (ho hat hat2) (by simp)
  | some e =>
  rw [hat] at hrk
  simp only [hat2] at hrk
  obtain ⟨he, -, -⟩ := attack_some hat2
  obtain ⟨hr1, hr2⟩ := hrow e he
  obtain ⟨b, off, hA1, hpl⟩ := hB.at_.ls.open_ (by omega)
  subst hA1
  -- at 110084
  refine Run.adv 9 [] (at_ Tryz.f52 [1,1,0,0,8,4]) [(0, .pointer (some ⟨g, 0, none⟩)), (1, .int .i64 s), (2, .int .i64 t), (6, .pointer (some ⟨g6, 0, none⟩)), (7, .int .i64 0), (8, .int .i64 0), (9, .int .i64 k), (16, .pointer (some ⟨g, 0, none⟩)), (17, .int .i64 s), (18, .int .i64 t), (19, .int .i64 k), (21, .pointer (some ⟨g, 0, none⟩)), (22, .int .i64 s), (23, .int .i64 t), (24, .int .i64 k)]
    (True)
    (by as_aux_lemma => kernel_rfl) trivial fun s_ => ?_
  refine Run.call 72 #[.pointer (some ⟨g, 0, none⟩), .int .i64 s, .int .i64 t, .int .i64 k] (some 25) (at_ Tryz.f52 [1,1,0,0,8,5]) (by as_aux_lemma => kernel_rfl) ((attack_ct g (some ⟨b, off, none⟩) A2 A c1 c2 c l xss s t k _ (hB.ext hE02) hm).is (by rw [hat, attV])) ?_
  rintro _ h2' ⟨rfl, hE2'⟩
  -- at 110088
  refine Run.adv 3 [] (at_ Tryz.f52 [1,1,0,0,8,8]) [(0, .pointer (some ⟨g, 0, none⟩)), (1, .int .i64 s), (2, .int .i64 t), (6, .pointer (some ⟨g6, 0, none⟩)), (7, .int .i64 0), (8, .int .i64 0), (9, .int .i64 k), (16, .pointer (some ⟨g, 0, none⟩)), (17, .int .i64 s), (18, .int .i64 t), (19, .int .i64 k), (20, .tuple #[.agg #[.int .i64 0, .int .i64 0, .int .i64 0], .bool false]), (21, .pointer (some ⟨g, 0, none⟩)), (22, .int .i64 s), (23, .int .i64 t), (24, .int .i64 k), (25, .tuple #[.agg #[.int .i64 0, .int .i64 0, .int .i64 0], .bool false]), (26, .agg #[.int .i64 0, .int .i64 0, .int .i64 0]), (27, .bool false)]
    (True)
    (by as_aux_lemma => kernel_rfl) trivial fun s_ => ?_
  refine Run.new #[.int .i64 0, .int .i64 0, .int .i64 0] 64 (fun g_ => .pointer (some ⟨g_, 0, none⟩)) (some 10) (at_ Tryz.f52 [1,1,0,0,8,9]) (by as_aux_lemma => kernel_rfl) fun g9 h8 hng9 hEg9 hBg9 => ?_
  refine Run.store g9 0 [.int .i64 0, .int .i64 0, .int .i64 0] (at_ Tryz.f52 [1,1,0,0,8,10]) (by as_aux_lemma => kernel_rfl) (hBg9.ext (Ext.refl _)) (by simp) rfl fun h9 hMh9 hzh9 (hBg9_h9 : Blk h9 g9 #[.int .i64 0, .int .i64 0, .int .i64 0] 64) => ?_
  have hE29 := (hMh9.ext_new (hE2'.trans hEg9) hng9 hE2')
  have hE09 := (hMh9.ext_new (((hEg6.trans hE2).trans hE2').trans hEg9) hng9 ((hEg6.trans hE2).trans hE2'))
  have hat := hat2
  -- at 111084
  refine Run.adv 14 [.lit] (at_ Tryz.f52 [1,1,1,0,8,4]) [(0, .pointer (some ⟨g, 0, none⟩)), (1, .int .i64 s), (2, .int .i64 t), (6, .pointer (some ⟨g6, 0, none⟩)), (7, .int .i64 0), (8, .int .i64 0), (9, .int .i64 k), (10, .pointer (some ⟨g9, 0, none⟩)), (11, .bool false), (16, .pointer (some ⟨g, 0, none⟩)), (17, .int .i64 s), (18, .int .i64 t), (19, .int .i64 k), (20, .tuple #[.agg #[.int .i64 0, .int .i64 0, .int .i64 0], .bool false]), (21, .pointer (some ⟨g, 0, none⟩)), (22, .int .i64 s), (23, .int .i64 t), (24, .int .i64 k), (25, .tuple #[.agg #[.int .i64 0, .int .i64 0, .int .i64 0], .bool false]), (26, .agg #[.int .i64 0, .int .i64 0, .int .i64 0]), (27, .bool false), (28, .bool false), (50, .pointer (some ⟨g, 0, none⟩)), (51, .int .i64 t), (52, .int .i64 s), (53, .int .i64 k)]
    (True)
    (by as_aux_lemma => kernel_rfl) trivial fun s_ => ?_
  refine Run.call 72 #[.pointer (some ⟨g, 0, none⟩), .int .i64 t, .int .i64 s, .int .i64 k] (some 54) (at_ Tryz.f52 [1,1,1,0,8,5]) (by as_aux_lemma => kernel_rfl) ((attack_ct g (some ⟨b, off, none⟩) A2 A c1 c2 c l xss t s k _ (hB.ext hE09) hm).is (by rw [hat, attV])) ?_
  rintro _ h3 ⟨rfl, hE3⟩
  have hE03 := hE09.trans hE3
  have hE13 := ((hMh9.ext_new ((hE2.trans hE2').trans hEg9) hng9 (hE2.trans hE2')).trans hE3)
  -- at 111088
  refine Run.adv 3 [] (at_ Tryz.f52 [1,1,1,0,8,8]) [(0, .pointer (some ⟨g, 0, none⟩)), (1, .int .i64 s), (2, .int .i64 t), (6, .pointer (some ⟨g6, 0, none⟩)), (7, .int .i64 0), (8, .int .i64 0), (9, .int .i64 k), (10, .pointer (some ⟨g9, 0, none⟩)), (11, .bool false), (16, .pointer (some ⟨g, 0, none⟩)), (17, .int .i64 s), (18, .int .i64 t), (19, .int .i64 k), (20, .tuple #[.agg #[.int .i64 0, .int .i64 0, .int .i64 0], .bool false]), (21, .pointer (some ⟨g, 0, none⟩)), (22, .int .i64 s), (23, .int .i64 t), (24, .int .i64 k), (25, .tuple #[.agg #[.int .i64 0, .int .i64 0, .int .i64 0], .bool false]), (26, .agg #[.int .i64 0, .int .i64 0, .int .i64 0]), (27, .bool false), (28, .bool false), (49, .tuple #[.agg #[.int .i64 e.1, .int .i64 e.2.1, .int .i64 e.2.2], .bool true]), (50, .pointer (some ⟨g, 0, none⟩)), (51, .int .i64 t), (52, .int .i64 s), (53, .int .i64 k), (54, .tuple #[.agg #[.int .i64 e.1, .int .i64 e.2.1, .int .i64 e.2.2], .bool true]), (55, .agg #[.int .i64 e.1, .int .i64 e.2.1, .int .i64 e.2.2]), (56, .bool true)]
    (True)
    (by as_aux_lemma => kernel_rfl) trivial fun s_ => ?_
  refine Run.new #[.int .i64 0, .int .i64 0, .int .i64 0] 64 (fun g_ => .pointer (some ⟨g_, 0, none⟩)) (some 13) (at_ Tryz.f52 [1,1,1,0,8,9]) (by as_aux_lemma => kernel_rfl) fun g10 h4 hng10 hEg10 hBg10 => ?_
  refine Run.store g10 0 [.int .i64 e.1, .int .i64 e.2.1, .int .i64 e.2.2] (at_ Tryz.f52 [1,1,1,0,8,10]) (by as_aux_lemma => kernel_rfl) (hBg10.ext (Ext.refl _)) (by simp) rfl fun h5 hMh5 hzh5 (hBg10_h5 : Blk h5 g10 #[.int .i64 e.1, .int .i64 e.2.1, .int .i64 e.2.2] 64) => ?_
  have hE35 := (hMh5.ext_new hEg10 hng10 (Ext.refl _))
  -- at 1111083
  refine Run.adv 7 [.val (.agg #[.int .i64 e.1, .int .i64 e.2.1, .int .i64 e.2.2])] (at_ Tryz.f52 [1,1,1,1,0,8,3]) [(0, .pointer (some ⟨g, 0, none⟩)), (1, .int .i64 s), (2, .int .i64 t), (6, .pointer (some ⟨g6, 0, none⟩)), (7, .int .i64 0), (8, .int .i64 0), (9, .int .i64 k), (10, .pointer (some ⟨g9, 0, none⟩)), (11, .bool false), (13, .pointer (some ⟨g10, 0, none⟩)), (14, .bool true), (16, .pointer (some ⟨g, 0, none⟩)), (17, .int .i64 s), (18, .int .i64 t), (19, .int .i64 k), (20, .tuple #[.agg #[.int .i64 0, .int .i64 0, .int .i64 0], .bool false]), (21, .pointer (some ⟨g, 0, none⟩)), (22, .int .i64 s), (23, .int .i64 t), (24, .int .i64 k), (25, .tuple #[.agg #[.int .i64 0, .int .i64 0, .int .i64 0], .bool false]), (26, .agg #[.int .i64 0, .int .i64 0, .int .i64 0]), (27, .bool false), (28, .bool false), (49, .tuple #[.agg #[.int .i64 e.1, .int .i64 e.2.1, .int .i64 e.2.2], .bool true]), (50, .pointer (some ⟨g, 0, none⟩)), (51, .int .i64 t), (52, .int .i64 s), (53, .int .i64 k), (54, .tuple #[.agg #[.int .i64 e.1, .int .i64 e.2.1, .int .i64 e.2.2], .bool true]), (55, .agg #[.int .i64 e.1, .int .i64 e.2.1, .int .i64 e.2.2]), (56, .bool true), (57, .pointer (some ⟨g, 0, none⟩)), (58, .int .i64 s), (59, .agg #[.int .i64 e.1, .int .i64 e.2.1, .int .i64 e.2.2])]
    (cellsAt h5 ⟨g10, 0, none⟩ [.int .i64 e.1, .int .i64 e.2.1, .int .i64 e.2.2] 0)
    (by as_aux_lemma => kernel_rfl) (hBg10_h5.all (Ext.refl _)) fun s_ => ?_
  refine Run.call 55 #[.pointer (some ⟨g, 0, none⟩), .int .i64 s, .agg #[.int .i64 e.1, .int .i64 e.2.1, .int .i64 e.2.2]] (some 60) (at_ Tryz.f52 [1,1,1,1,0,8,4]) (by as_aux_lemma => kernel_rfl) (reply_ct g (some ⟨b, off, none⟩) A2 A c1 c2 c l xss s e.1 e.2.1 e.2.2 _ (hB.ext (hE03.trans hE35)) hm) ?_
  rintro _ h6 ⟨rfl, hE6⟩
  obtain ⟨r, hr⟩ : ∃ r, bestL xss e.2.2 (succL l.es s e.2.1) = r := ⟨_, rfl⟩
  rw [hr]
  have hE06 := (hE03.trans hE35).trans hE6
  have hE16 := (hE13.trans hE35).trans hE6
  have hsz := hE13.size
  have hz3 := hE35.size
  have hz6 := hE6.size
  have hlg := hBg10_h5.lt
  -- at 111110
  refine Run.adv 3 [] (at_ Tryz.f52 [1,1,1,1,1,0]) [(0, .pointer (some ⟨g, 0, none⟩)), (6, .pointer (some ⟨g6, 0, none⟩)), (13, .pointer (some ⟨g10, 0, none⟩)), (15, .int .i64 r)]
    (True)
    (by as_aux_lemma => kernel_rfl) trivial fun s_ => ?_
  refine Run.any (opsAt (at_ Tryz.f52 [1,1,1,1,1,0])) (at_ Tryz.f52 [1,1,1,1,1,1]) (fun H => Mod (some g6) h6 H) [0, 1, 2, 3, 4, 5, 6, 7, 8, 9, 10, 11, 12, 13, 14, 15, 17, 18] [0, 1, 2, 3, 4, 5, 6, 7, 8, 9, 10, 11, 12, 13, 14, 15] [.val (.slice (some ⟨b, off, none⟩) l.ls.length c1), .val (.int .i64 e.2.1), .val (.string (sd l.ls e.2.1)), .val (.int .i64 e.2.2), .val (.int .i64 e.2.2)] #[true, true, true, true, true, true, true, true, true, true, true, true, true, true, true, true, false, false, false] [(0, .pointer (some ⟨g, 0, none⟩)), (6, .pointer (some ⟨g6, 0, none⟩)), (13, .pointer (some ⟨g10, 0, none⟩)), (15, .int .i64 r), (61, .pointer (some ⟨g, 0, none⟩)), (62, .pointer (some ⟨g, 0, none⟩)), (63, .pointer (some ⟨g, 0, none⟩)), (64, .pointer (some ⟨g, 1, none⟩)), (65, .slice (some ⟨b, off, none⟩) l.ls.length c1), (66, .pointer (some ⟨g10, 1, none⟩)), (67, .int .i64 e.2.1), (68, .pointer (some ⟨b, off + e.2.1.toNat, none⟩)), (69, .string (sd l.ls e.2.1)), (70, .pointer (some ⟨g10, 2, none⟩)), (71, .int .i64 e.2.2), (72, .int .i64 r), (73, .agg #[.int .i64 2, .string (sd l.ls e.2.1), .int .i64 e.2.2, .int .i64 r]), (74, .int .i64 r), (75, .pointer (some ⟨g10, 2, none⟩)), (76, .int .i64 e.2.2)]
    (fun H => cellH H ⟨g, 1, none⟩ = some (.slice (some ⟨b, off, none⟩) l.ls.length c1) ∧ cellH H ⟨g10, 1, none⟩ = some (.int .i64 e.2.1) ∧ (0 ≤ e.2.1 ∧ e.2.1 < (l.ls.length : Int)) ∧ cellH H ⟨b, off + e.2.1.toNat, none⟩ = some (.string (sd l.ls e.2.1)) ∧ cellH H ⟨g10, 2, none⟩ = some (.int .i64 e.2.2) ∧ cellH H ⟨g10, 2, none⟩ = some (.int .i64 e.2.2)) 3 (by as_aux_lemma => kernel_rfl) (by as_aux_lemma => kernel_rfl) ((Ext.refl _).mod _)
    (by as_aux_lemma => kernel_rfl) (fun H hC => ⟨((hC.blk (hBg.ext ((hMh5.ext_new (((hMh9.ext_new (((hEg6.trans hE2).trans hE2').trans hEg9) hng9 ((hEg6.trans hE2).trans hE2')).trans hE3).trans hEg10) hng10 ((hMh9.ext_new (((hEg6.trans hE2).trans hE2').trans hEg9) hng9 ((hEg6.trans hE2).trans hE2')).trans hE3)).trans hE6)) (by simp only [ne_eq, Option.some.injEq]; omega)).at (Ext.refl _) 1 rfl), ((hC.blk (hBg10_h5.ext hE6) (by simp only [ne_eq, Option.some.injEq]; omega)).at (Ext.refl _) 1 rfl), ⟨by omega, by omega⟩, (hpl _ (hC.ext ((hMh5.ext_new (((hMh9.ext_new (((hEg6.trans hE2).trans hE2').trans hEg9) hng9 ((hEg6.trans hE2).trans hE2')).trans hE3).trans hEg10) hng10 ((hMh9.ext_new (((hEg6.trans hE2).trans hE2').trans hEg9) hng9 ((hEg6.trans hE2).trans hE2')).trans hE3)).trans hE6) (by exact fun g' e => by cases e; omega)) e.2.1 (by omega) (by omega)), ((hC.blk (hBg10_h5.ext hE6) (by simp only [ne_eq, Option.some.injEq]; omega)).at (Ext.refl _) 2 rfl), ((hC.blk (hBg10_h5.ext hE6) (by simp only [ne_eq, Option.some.injEq]; omega)).at (Ext.refl _) 2 rfl)⟩) fun s_ => ?_
  refine RunA.storeOwn 2 g6 0 [.int .i64 2, .string (sd l.ls e.2.1), .int .i64 e.2.2, .int .i64 r] false #[true, true, true, true, true, true, true, true, true, true, true, true, true, true, true, true, true, false, false] (by as_aux_lemma => kernel_rfl) (hO6.ext hE16) (by simp) rfl fun h7 hMh7 hzh7 hOh7 => ⟨fun _ => (((Ext.refl _).mod _).trans hMh7), ?_⟩
  refine RunA.adv [17, 18] [] #[true, true, true, true, true, true, true, true, true, true, true, true, true, true, true, true, true, true, true] [(0, .pointer (some ⟨g, 0, none⟩)), (6, .pointer (some ⟨g6, 0, none⟩)), (7, .int .i64 r), (8, .int .i64 e.2.2), (13, .pointer (some ⟨g10, 0, none⟩)), (15, .int .i64 r), (61, .pointer (some ⟨g, 0, none⟩)), (62, .pointer (some ⟨g, 0, none⟩)), (63, .pointer (some ⟨g, 0, none⟩)), (64, .pointer (some ⟨g, 1, none⟩)), (65, .slice (some ⟨b, off, none⟩) l.ls.length c1), (66, .pointer (some ⟨g10, 1, none⟩)), (67, .int .i64 e.2.1), (68, .pointer (some ⟨b, off + e.2.1.toNat, none⟩)), (69, .string (sd l.ls e.2.1)), (70, .pointer (some ⟨g10, 2, none⟩)), (71, .int .i64 e.2.2), (72, .int .i64 r), (73, .agg #[.int .i64 2, .string (sd l.ls e.2.1), .int .i64 e.2.2, .int .i64 r]), (74, .int .i64 r), (75, .pointer (some ⟨g10, 2, none⟩)), (76, .int .i64 e.2.2)]
    (fun H => True) 0 (by as_aux_lemma => kernel_rfl) (((Ext.refl _).mod _).trans hMh7)
    (by as_aux_lemma => kernel_rfl) (fun H hC => trivial) fun s_ => ?_
  refine RunA.done [(0, .pointer (some ⟨g, 0, none⟩)), (6, .pointer (some ⟨g6, 0, none⟩)), (7, .int .i64 r), (8, .int .i64 e.2.2), (13, .pointer (some ⟨g10, 0, none⟩)), (15, .int .i64 r), (61, .pointer (some ⟨g, 0, none⟩)), (62, .pointer (some ⟨g, 0, none⟩)), (63, .pointer (some ⟨g, 0, none⟩)), (64, .pointer (some ⟨g, 1, none⟩)), (65, .slice (some ⟨b, off, none⟩) l.ls.length c1), (66, .pointer (some ⟨g10, 1, none⟩)), (67, .int .i64 e.2.1), (68, .pointer (some ⟨b, off + e.2.1.toNat, none⟩)), (69, .string (sd l.ls e.2.1)), (70, .pointer (some ⟨g10, 2, none⟩)), (71, .int .i64 e.2.2), (72, .int .i64 r), (73, .agg #[.int .i64 2, .string (sd l.ls e.2.1), .int .i64 e.2.2, .int .i64 r]), (74, .int .i64 r), (75, .pointer (some ⟨g10, 2, none⟩)), (76, .int .i64 e.2.2)] (by as_aux_lemma => kernel_rfl) (by as_aux_lemma => kernel_rfl) fun s_ => ?_
  refine Run.ret [.agg #[.int .i64 2, .string (sd l.ls e.2.1), .int .i64 e.2.2, .int .i64 r]] (.tuple #[.agg #[.int .i64 2, .string (sd l.ls e.2.1), .int .i64 e.2.2, .int .i64 r], .int .i64 r, .int .i64 e.2.2]) (cellsAt h7 ⟨g6, 0, none⟩ [.int .i64 2, .string (sd l.ls e.2.1), .int .i64 e.2.2, .int .i64 r] 0) Tryz.func52 (by as_aux_lemma => kernel_rfl) (by as_aux_lemma => kernel_rfl) (hOh7.cells _ _ 0 (fun j hj => match j, hj with | 0, _ => rfl | 1, _ => rfl | 2, _ => rfl | 3, _ => rfl | _ + 4, hj => absurd hj (by simp))) ?_
  refine ⟨?_, hMh7.ext_new hE06 hng6 (Ext.refl _)⟩
  rw [hrk, hr]; rfl
end Go.Proofs.YtbajgbkkbabmlaaGreatDoor
