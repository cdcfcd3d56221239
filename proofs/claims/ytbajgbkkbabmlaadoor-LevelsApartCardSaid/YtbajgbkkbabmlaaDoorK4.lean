/- The plain example of layer 33, walked. -/
import Derived.Test.YtbajgbkkbabmlaaDoorProg
import Derived.Test.YtbajgbkkbabmlaaDoorR4
import Derived.Test.YtbajgbkkbabmlaaDoorK2
set_option linter.unusedVariables false
namespace Go.Proofs.YtbajgbkkbabmlaaDoor
open Go.Vc

/-- The plain example's system. -/
def l33 : Lt := ⟨3, [⟨#[97]⟩], [(0, 0, 1), (1, 0, 2)]⟩
theorem may33 : May l33 where
  n1 := by decide
  n2 := by decide
  ls := by
    refine ⟨by decide, fun i h0 h1 => ?_⟩
    have : i = 0 := by
      have : l33.ls.length = 1 := rfl
      omega
    subst this
    exact ⟨by decide, fun hh => by omega⟩
  len := by decide
  es := by
    intro i h0 h1
    have : i = 0 ∨ i = 1 := by
      have : l33.es.length = 2 := rfl
      omega
    rcases this with rfl | rfl
    · exact ⟨by unfold EdgeMay; decide, fun hh => by omega⟩
    · exact ⟨by unfold EdgeMay; decide, fun _ => by decide⟩
theorem at33 {h h' : Heap} {g6 g9 : Nat} {t1 t2 : TypeId} (h6 : Blk h g6 #[.string ⟨#[97]⟩] t1) (h9 : Blk h' g9 #[.int .i64 0, .int .i64 0, .int .i64 1, .int .i64 1, .int .i64 0, .int .i64 2] t2) (E : Ext h h') : LtAt h' l33 (some ⟨g6, 0, none⟩) 1 (some ⟨g9, 0, none⟩) 2 :=
  ⟨row1_lit ByteArray.empty (xs := l33.ls) (h6.ext E) (by decide), rowK_lit (enc := encE) (k := 3) (fun _ => rfl) (0, 0, 0) (xs := l33.es) h9 (by decide)⟩
theorem lev33_0 : lev l33.es 3 0 = [0, 0, 0] := rfl
theorem lev33_1 : lev l33.es 3 1 = [0, 0, 1] := by
  show stepL l33.es [0, 0, 0] = _
  rw [stepL_short (by decide)]; decide
theorem lev33_2 : lev l33.es 3 2 = [0, 1, 2] := by
  show stepL l33.es (lev l33.es 3 1) = _
  rw [lev33_1, stepL_short (by decide)]; decide
theorem lev33_3 : lev l33.es 3 3 = [0, 1, 2] := by
  show stepL l33.es (lev l33.es 3 2) = _
  rw [lev33_2, stepL_short (by decide)]; decide
theorem stop33 : Stop l33.es 3 2 where
  at_ := by rw [lev33_3, lev33_2]
  first j hj := by
    have : j = 0 ∨ j = 1 := by omega
    rcases this with rfl | rfl
    · rw [lev33_1, lev33_0]; decide
    · rw [lev33_2, lev33_1]; decide
theorem levs33 : levs l33.es 3 2 = [[0, 0, 0], [0, 0, 1], [0, 1, 2]] := by
  unfold levs
  rw [show List.range (2 + 1) = [0, 1, 2] from rfl]
  simp only [List.map_cons, List.map_nil, lev33_1, lev33_2]
  rfl
theorem apart33_02 : IsApart [[0, 0, 0], [0, 0, 1], [0, 1, 2]] 0 2 1 :=
  .inr ⟨1, rfl, by decide, by unfold ApartIn; decide, fun j hj => by
    obtain rfl : j = 0 := by omega
    unfold ApartIn; decide⟩
theorem apart33_01 : IsApart [[0, 0, 0], [0, 0, 1], [0, 1, 2]] 0 1 2 :=
  .inr ⟨2, rfl, by decide, by unfold ApartIn; decide, fun j hj => by
    have : j = 0 ∨ j = 1 := by omega
    rcases this with rfl | rfl <;> (unfold ApartIn; decide)⟩
theorem apart33_11 : IsApart [[0, 0, 0], [0, 0, 1], [0, 1, 2]] 1 1 (-1) :=
  .inl ⟨rfl, fun j hj hh => hh.2.2.2.2 rfl⟩
theorem apart_is (A : Option Addr) (c : Nat) (xss : List (List Int)) (x y r : Int) (h : Heap) (hx : Rows2 h A xss c) (hr : IsApart xss x y r) :
    Ct Tryd.prog 30 #[.slice A xss.length c, .int .i64 x, .int .i64 y] h (fun v h' => v = .int .i64 r ∧ Ext h h') :=
  (apart_ct A c xss x y h hx).mono fun v h' ⟨r', a, b, e⟩ => ⟨by rw [a, b.unique hr], e⟩
theorem awake33_ct (h : Heap) (hT : Tab h) : Ct Tryd.prog 25 #[] h (fun v h' => v = .bool true ∧ Ext h h') := by
  refine Ct.enter (args := []) Tryd.func25 rfl Tryd.ntmps25 (by simp) fun w hw => ?_
  -- at 1080
  refine Run.adv 6 [] (at_ Tryd.f25 [1,0,8,0]) [(0, .bool false)]
    (True)
    (by as_aux_lemma => kernel_rfl) trivial fun s_ => ?_
  refine Run.new #[.string ⟨#[97]⟩] 9 (fun g_ => .slice (some ⟨g_, 0, none⟩) 1 1) (some 6) (at_ Tryd.f25 [1,0,8,1]) (by as_aux_lemma => kernel_rfl) fun g6 h6 hng6 hEg6 hBg6 => ?_
  -- at 1083
  refine Run.adv 2 [] (at_ Tryd.f25 [1,0,8,3]) [(0, .bool false), (6, .slice (some ⟨g6, 0, none⟩) 1 1), (7, .agg #[.int .i64 0, .int .i64 0, .int .i64 1]), (8, .agg #[.int .i64 1, .int .i64 0, .int .i64 2])]
    (True)
    (by as_aux_lemma => kernel_rfl) trivial fun s_ => ?_
  refine Run.new #[.int .i64 0, .int .i64 0, .int .i64 1, .int .i64 1, .int .i64 0, .int .i64 2] 54 (fun g_ => .slice (some ⟨g_, 0, none⟩) 2 2) (some 9) (at_ Tryd.f25 [1,0,8,4]) (by as_aux_lemma => kernel_rfl) fun g9 h9 hng9 hEg9 hBg9 => ?_
  -- at 1085
  refine Run.adv 1 [] (at_ Tryd.f25 [1,0,8,5]) [(0, .bool false), (6, .slice (some ⟨g6, 0, none⟩) 1 1), (7, .agg #[.int .i64 0, .int .i64 0, .int .i64 1]), (8, .agg #[.int .i64 1, .int .i64 0, .int .i64 2]), (9, .slice (some ⟨g9, 0, none⟩) 2 2), (10, .agg #[.int .i64 3, .slice (some ⟨g6, 0, none⟩) 1 1, .slice (some ⟨g9, 0, none⟩) 2 2])]
    (True)
    (by as_aux_lemma => kernel_rfl) trivial fun s_ => ?_
  refine Run.new #[.int .i64 0, .slice none 0 0, .slice none 0 0] 25 (fun g_ => .pointer (some ⟨g_, 0, none⟩)) (some 1) (at_ Tryd.f25 [1,0,8,6]) (by as_aux_lemma => kernel_rfl) fun g1 h1 hng1 hEg1 hBg1 => ?_
  refine Run.store g1 0 [.int .i64 3, .slice (some ⟨g6, 0, none⟩) 1 1, .slice (some ⟨g9, 0, none⟩) 2 2] (at_ Tryd.f25 [1,0,8,7]) (by as_aux_lemma => kernel_rfl) (hBg1.ext (Ext.refl _)) (by simp) rfl fun h2 hMh2 hzh2 (hBg1_h2 : Blk h2 g1 #[.int .i64 3, .slice (some ⟨g6, 0, none⟩) 1 1, .slice (some ⟨g9, 0, none⟩) 2 2] 25) => ?_
  have hL := (at33 hBg6 hBg9 hEg9).ext (hMh2.ext_new hEg1 hng1 (Ext.refl _))
  -- at 11081
  refine Run.adv 4 [.val (.agg #[.int .i64 3, .slice (some ⟨g6, 0, none⟩) 1 1, .slice (some ⟨g9, 0, none⟩) 2 2])] (at_ Tryd.f25 [1,1,0,8,1]) [(1, .pointer (some ⟨g1, 0, none⟩)), (12, .agg #[.int .i64 3, .slice (some ⟨g6, 0, none⟩) 1 1, .slice (some ⟨g9, 0, none⟩) 2 2])]
    (cellsAt h2 ⟨g1, 0, none⟩ [.int .i64 3, .slice (some ⟨g6, 0, none⟩) 1 1, .slice (some ⟨g9, 0, none⟩) 2 2] 0)
    (by as_aux_lemma => kernel_rfl) (hBg1_h2.all (Ext.refl _)) fun s_ => ?_
  refine Run.call 26 #[.agg #[.int .i64 3, .slice (some ⟨g6, 0, none⟩) 1 1, .slice (some ⟨g9, 0, none⟩) 2 2]] (some 13) (at_ Tryd.f25 [1,1,0,8,2]) (by as_aux_lemma => kernel_rfl) (lofOk_ct _ _ 1 2 l33 3 _ hL may33 rfl (hT.ext (hMh2.ext_new ((hEg6.trans hEg9).trans hEg1) hng1 (hEg6.trans hEg9)))) ?_
  rintro v h3 ⟨m, w2, og, vs, hS, rfl, hO, hN, hE3⟩
  obtain rfl := hS.unique stop33
  rw [levs33] at hO hN
  obtain ⟨A2, c2, rfl, hr2⟩ := hO.rows2 hN (by decide) (by decide)
  -- at 111081
  refine Run.adv 9 [.val (.agg #[.int .i64 3, .slice (some ⟨g6, 0, none⟩) 1 1, .slice (some ⟨g9, 0, none⟩) 2 2])] (at_ Tryd.f25 [1,1,1,0,8,1]) [(1, .pointer (some ⟨g1, 0, none⟩)), (2, .slice A2 3 c2), (3, .int .i64 0), (17, .agg #[.int .i64 3, .slice (some ⟨g6, 0, none⟩) 1 1, .slice (some ⟨g9, 0, none⟩) 2 2])]
    (cellsAt h3 ⟨g1, 0, none⟩ [.int .i64 3, .slice (some ⟨g6, 0, none⟩) 1 1, .slice (some ⟨g9, 0, none⟩) 2 2] 0)
    (by as_aux_lemma => kernel_rfl) (hBg1_h2.all hE3) fun s_ => ?_
  refine Run.call 27 #[.agg #[.int .i64 3, .slice (some ⟨g6, 0, none⟩) 1 1, .slice (some ⟨g9, 0, none⟩) 2 2]] (some 18) (at_ Tryd.f25 [1,1,1,0,8,2]) (by as_aux_lemma => kernel_rfl) (lastOk_ct _ _ 1 2 l33 3 _ (hL.ext hE3) may33 rfl (hT.ext ((hMh2.ext_new ((hEg6.trans hEg9).trans hEg1) hng1 (hEg6.trans hEg9)).trans hE3))) ?_
  rintro v h4 ⟨m, w4, og4, hS4, rfl, hO4, hE4⟩
  obtain rfl := hS4.unique stop33
  rw [lev33_2] at hO4
  obtain ⟨A4, c4, rfl, hr4⟩ := hO4.row1 (d := 0) (by decide)
  -- at 11110813
  refine Run.adv 21 [.lit, .lit, .lit, .lit, .lit, .lit] (at_ Tryd.f25 [1,1,1,1,0,8,13]) [(2, .slice A2 3 c2), (32, .bool true), (33, .slice A4 3 c4)]
    (True)
    (by as_aux_lemma => kernel_rfl) trivial fun s_ => ?_
  refine Run.new #[.int .i64 0, .int .i64 1, .int .i64 2] 3 (fun g_ => .slice (some ⟨g_, 0, none⟩) 3 3) (some 34) (at_ Tryd.f25 [1,1,1,1,0,8,14]) (by as_aux_lemma => kernel_rfl) fun g34 h5 hng34 hEg34 hBg34 => ?_
  -- at 11110818
  refine Run.adv 4 [.lit, .val (.bool true), .lit] (at_ Tryd.f25 [1,1,1,1,0,8,18]) [(2, .slice A2 3 c2), (37, .bool true), (38, .slice A2 3 c2)]
    ((Ct Tryd.prog 20 #[.slice A4 3 c4, .slice (some ⟨g34, 0, none⟩) 3 3] h5 (fun v_ h_ => v_ = .bool true ∧ h_ = h5)))
    (by as_aux_lemma => kernel_rfl) (Same_yes A4 (some ⟨g34, 0, none⟩) c4 3 [0, 1, 2] [0, 1, 2] _ (hr4.ext hEg34) (ints_lit (xs := [0, 1, 2]) hBg34) rfl) fun s_ => ?_
  refine Run.call 30 #[.slice A2 3 c2, .int .i64 0, .int .i64 2] (some 39) (at_ Tryd.f25 [1,1,1,1,0,8,19]) (by as_aux_lemma => kernel_rfl) (apart_is A2 c2 [[0, 0, 0], [0, 0, 1], [0, 1, 2]] 0 2 1 _ (hr2.ext (hE4.trans hEg34)) apart33_02) ?_
  rintro _ h7 ⟨rfl, hE7⟩
  -- at 11110823
  refine Run.adv 4 [.lit, .lit] (at_ Tryd.f25 [1,1,1,1,0,8,23]) [(2, .slice A2 3 c2), (42, .bool true), (43, .slice A2 3 c2)]
    (True)
    (by as_aux_lemma => kernel_rfl) trivial fun s_ => ?_
  refine Run.call 30 #[.slice A2 3 c2, .int .i64 0, .int .i64 1] (some 44) (at_ Tryd.f25 [1,1,1,1,0,8,24]) (by as_aux_lemma => kernel_rfl) (apart_is A2 c2 [[0, 0, 0], [0, 0, 1], [0, 1, 2]] 0 1 2 _ (hr2.ext ((hE4.trans hEg34).trans hE7)) apart33_01) ?_
  rintro _ h8 ⟨rfl, hE8⟩
  -- at 11110828
  refine Run.adv 4 [.lit, .lit] (at_ Tryd.f25 [1,1,1,1,0,8,28]) [(2, .slice A2 3 c2), (47, .bool true), (48, .slice A2 3 c2)]
    (True)
    (by as_aux_lemma => kernel_rfl) trivial fun s_ => ?_
  refine Run.call 30 #[.slice A2 3 c2, .int .i64 1, .int .i64 1] (some 49) (at_ Tryd.f25 [1,1,1,1,0,8,29]) (by as_aux_lemma => kernel_rfl) (apart_is A2 c2 [[0, 0, 0], [0, 0, 1], [0, 1, 2]] 1 1 (-1) _ (hr2.ext (((hE4.trans hEg34).trans hE7).trans hE8)) apart33_11) ?_
  rintro _ h10 ⟨rfl, hE10⟩
  -- at 11111
  refine Run.adv 4 [.lit] (at_ Tryd.f25 [1,1,1,1,1]) [(0, .bool true)]
    (True)
    (by as_aux_lemma => kernel_rfl) trivial fun s_ => ?_
  refine Run.ret [] (.bool true) (True) Tryd.func25 (by as_aux_lemma => kernel_rfl) (by as_aux_lemma => kernel_rfl) trivial ?_
  exact ⟨rfl, (((((((hMh2.ext_new ((hEg6.trans hEg9).trans hEg1) hng1 (hEg6.trans hEg9)).trans hE3).trans hE4).trans hEg34).trans hE7).trans hE8).trans hE10)⟩
end Go.Proofs.YtbajgbkkbabmlaaDoor
