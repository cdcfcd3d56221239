/- lts.out, lts.Out, lts.Succ, walked. -/
import Derived.Test.YtbajgbkkbabmlaaGreatDoorProg
import Derived.Test.YtbajgbkkbabmlaaGreatDoorR2
import Derived.Test.YtbajgbkkbabmlaaGreatDoorV1
set_option linter.unusedVariables false
namespace Go.Vc

/-! ### Parts of a row -/
theorem RowK.sub {α : Type} {h : Heap} {A : Option Addr} {k : Nat} {enc : α → List Value} {d : α} {xs : List α} {c : Nat} (r : RowK h A k enc d xs c) {i j : Nat} (hij : i ≤ j) (hj : j ≤ xs.length) :
    RowK h (if c = i then A else A.map (·.add (i * k))) k enc d ((xs.take j).drop i) (c - i) := by
  have hc := r.cap
  have hl := r.len
  have hlen : ((xs.take j).drop i).length = j - i := by simp; omega
  refine ⟨by omega, by omega, fun hp => ?_⟩
  rw [hlen] at hp
  obtain ⟨b, off, rfl, hx⟩ := r.open_ (by omega)
  refine ⟨b, off + i * k, by rw [if_neg (by omega)]; simp [addr_add], fun h' E q h0 h1 => ?_⟩
  rw [hlen] at h1
  have := hx h' E (i + q) (by omega) (by omega)
  have e1 : ((i : Int) + q).toNat = i + q.toNat := by omega
  rw [e1] at this
  have e2 : off + i * k + q.toNat * k = off + (i + q.toNat) * k := by rw [Nat.add_mul]; omega
  have e3 : ((xs.take j).drop i).getD q.toNat d = xs.getD (i + q.toNat) d := by
    rw [List.getD_eq_getElem?_getD, List.getD_eq_getElem?_getD, List.getElem?_drop, List.getElem?_take, if_pos (by omega)]
  rw [e2, e3]; exact this
theorem cellsAt_get {h : Heap} {a : Addr} : ∀ {l : List Value} {i : Nat}, cellsAt h a l i → ∀ j, j < l.length → cellH h (a.add (i + j)) = l[j]?
  | v :: l, i, hc, 0, _ => by simpa using hc.1
  | v :: l, i, hc, j + 1, hj => by
    have := cellsAt_get hc.2 j (by simpa using hj)
    rw [show i + 1 + j = i + (j + 1) from by omega] at this
    simpa using this
theorem RowK.src {α : Type} {P : Program} {h h' : Heap} {A : Option Addr} {k : Nat} {enc : α → List Value} {d : α} {xs : List α} {c : Nat} (r : RowK h A k enc d xs c) (hk : ∀ x, (enc x).length = k) (E : Ext h h') : Src P h' (.slice A xs.length c) k xs.length (xs.flatMap enc) := by
  by_cases hn : xs.length = 0
  · have hx : xs = [] := List.eq_nil_of_length_eq_zero hn
    subst hx
    cases A with
    | none => exact Src.nil
    | some a => exact Src.row (xs := []) trivial (by simp)
  · obtain ⟨b, off, rfl, hp⟩ := r.open_ (by omega)
    have hfl := flatMap_length hk xs
    refine Src.row (cellsAt_of _ 0 fun j hj => ?_) hfl
    have hk0 : 0 < k := by
      rcases Nat.eq_zero_or_pos k with e | e
      · subst e; rw [hfl] at hj; simp at hj
      · exact e
    have hjk : j / k < xs.length := by rw [hfl] at hj; exact Nat.div_lt_of_lt_mul (by rw [Nat.mul_comm]; exact hj)
    have hc := hp h' E (j / k : Nat) (Int.natCast_nonneg _) (by exact_mod_cast hjk)
    have hm : j % k < k := Nat.mod_lt _ hk0
    have hxj : xs[j / k]? = some (xs.getD (j / k) d) := by
      rw [List.getD_eq_getElem?_getD, List.getElem?_eq_getElem hjk]; rfl
    have hf := getElem?_flatMap hk xs (j / k) (j % k) _ hxj hm
    have hjj : j / k * k + j % k = j := by rw [Nat.mul_comm]; exact Nat.div_add_mod j k
    rw [hjj] at hf
    have hg := cellsAt_get hc (j % k) (by rw [hk]; exact hm)
    rw [Int.toNat_natCast, Nat.zero_add, addr_add, Nat.add_assoc, hjj] at hg
    rw [Nat.zero_add, addr_add, hf]
    exact hg
/-- s[i:j] -/
theorem says_sub {P : Program} {t e : TypeId} (ht : P.underlying t = some (.slice e)) {sz : Nat} (hi : (P.info? e).map (·.size) = some sz) {A : Option Addr} {n c i j : Nat} (hij : i ≤ j) (hj : j ≤ c) (h : Heap) :
    Says P (Instr.sliceAt t (.slice A n c) (some (.int .i64 (i : Int))) (some (.int .i64 (j : Int))) none) (.slice (if c = i then A else A.map (·.add (i * sz))) (j - i) (c - i)) h := by
  intro w _
  obtain ⟨q, hi, hsz⟩ := Option.map_eq_some_iff.1 hi
  have hcell : P.cellsOf e = sz := by simp [Program.cellsOf, hi, hsz]
  have h1 : (j : Int) ≤ c := by omega
  have h2 : (i : Int) ≤ j := by omega
  simp [Instr.sliceAt, run_underlying ht, Result.andThen, Instr.slice, Instr.sliceBounds, Instr.sliceBound, asIntOf, h1, h2, run_sizeOf_eq hi, hcell, hij, hj]
theorem equalIn_nil {P : Program} {w : World} {t e : TypeId} (hu : P.underlying t = some (.slice e)) (A : Option Addr) (n c d : Nat) : (Op.equalIn (d + 1) t (.slice A n c) (.slice none 0 0)).run P w = .ok A.isNone w := by
  cases A <;> simp [Op.equalIn, run_underlying hu, Result.andThen]
/-- s == nil -/
theorem says_nil {P : Program} {t e : TypeId} (ht : P.underlying t = some (.slice e)) {x y : Operand} {A : Option Addr} {n c : Nat} (h : Heap) :
    Says P (do eqGuard .eql t x y (.slice A n c) (.slice none 0 0); binOp .eql t (.slice A n c) (.slice none 0 0)) (.bool A.isNone) h := by
  intro w _
  have := equalIn_nil (w := w) ht A n c 9999
  simp only [eqGuard, binOp, Op.equal, Op.maxDepth]
  simp [Result.andThen, this]
/-- u >> 1 -/
theorem says_half {P : Program} {t : TypeId} {x y : Operand} {u : Int} {q : Nat} (hq : u = 2 * q ∨ u = 2 * q + 1) (h : Heap) :
    Says P (do eqGuard .shr t x y (.int .u64 u) (.int .u64 1); binOp .shr t (.int .u64 u) (.int .u64 1)) (.int .u64 (q : Int)) h := by
  intro w _
  have : u.fdiv 2 = q := by
    rw [Int.fdiv_eq_ediv_of_nonneg _ (by decide)]; omega
  simp [eqGuard, binOp, Op.shift, Result.andThen, IntKind.bits, this]

theorem enc3_len (x : Ed) : (encE x).length = 3 := rfl
/-! ### Edges from a node -/
def outL (es : List Ed) (a : Int) : List Ed := es.filter fun e => decide (e.1 = a)
theorem outL_len (es : List Ed) (a : Int) : (outL es a).length ≤ es.length := List.length_filter_le _ _
theorem filter_seg {α : Type} (p : α → Bool) (xs : List α) (i k : Nat) (hik : i ≤ k) (hk : k ≤ xs.length) (h1 : ∀ j (hj : j < xs.length), j < i → p xs[j] = false) (h2 : ∀ j (hj : j < xs.length), i ≤ j → j < k → p xs[j] = true)
    (h3 : ∀ j (hj : j < xs.length), k ≤ j → p xs[j] = false) : (xs.take k).drop i = xs.filter p := by
  have e : xs = xs.take i ++ ((xs.take k).drop i ++ xs.drop k) := by
    have a : xs.take i = (xs.take k).take i := by rw [List.take_take, Nat.min_eq_left hik]
    rw [← List.append_assoc, a, List.take_append_drop, List.take_append_drop]
  conv => rhs; rw [e]
  rw [List.filter_append, List.filter_append]
  have f1 : (xs.take i).filter p = [] := List.filter_eq_nil_iff.2 fun x hx => by
    obtain ⟨j, hj, rfl⟩ := List.mem_iff_getElem.1 hx
    simp only [List.length_take] at hj
    rw [List.getElem_take, h1 j (by omega) (by omega)]; simp
  have f3 : (xs.drop k).filter p = [] := List.filter_eq_nil_iff.2 fun x hx => by
    obtain ⟨j, hj, rfl⟩ := List.mem_iff_getElem.1 hx
    simp only [List.length_drop] at hj
    rw [List.getElem_drop, h3 (k + j) (by omega) (by omega)]; simp
  have f2 : ((xs.take k).drop i).filter p = (xs.take k).drop i := List.filter_eq_self.2 fun x hx => by
    obtain ⟨j, hj, rfl⟩ := List.mem_iff_getElem.1 hx
    simp only [List.length_drop, List.length_take] at hj
    rw [List.getElem_drop, List.getElem_take, h2 (i + j) (by omega) (by omega) (by omega)]
  rw [f1, f2, f3]; simp
theorem ed_get (es : List Ed) (j : Nat) (hj : j < es.length) : ed es (j : Int) = es[j] := by
  unfold ed; rw [Int.toNat_natCast, List.getD_eq_getElem?_getD, List.getElem?_eq_getElem hj]; rfl
theorem May.mono {l : Lt} (hm : May l) {i j : Nat} (hij : i ≤ j) (hj : j < l.es.length) : (ed l.es i).1 ≤ (ed l.es j).1 := by
  induction j with
  | zero => obtain rfl : i = 0 := by omega
            exact Int.le_refl _
  | succ j ih =>
    by_cases e : i = j + 1
    · subst e; exact Int.le_refl _
    · have h1 := ih (by omega) (by omega)
      have h2 := (hm.es ((j + 1 : Nat) : Int) (by omega) (by omega)).2 (by omega)
      rw [show (((j + 1 : Nat) : Int) - 1) = (j : Int) by omega] at h2
      unfold aheadB at h2
      by_cases e2 : (ed l.es (j : Int)).1 = (ed l.es ((j + 1 : Nat) : Int)).1
      · omega
      · rw [if_pos e2] at h2
        have := of_decide_eq_true h2
        omega
theorem outL_seg {l : Lt} (hm : May l) {a : Int} {i k : Nat} (hik : i ≤ k) (hk : k ≤ l.es.length) (h1 : ∀ j : Nat, j < i → (ed l.es j).1 < a) (h2 : ∀ j : Nat, i ≤ j → j < k → (ed l.es j).1 = a)
    (h0 : ∀ j : Nat, i ≤ j → j < l.es.length → a ≤ (ed l.es j).1) (h3 : k < l.es.length → (ed l.es k).1 ≠ a) : (l.es.take k).drop i = outL l.es a := by
  refine filter_seg _ _ i k hik hk (fun j hj hji => ?_) (fun j hj hji hjk => ?_) (fun j hj hkj => ?_)
  · have := h1 j hji
    rw [ed_get _ _ hj] at this
    exact decide_eq_false (by omega)
  · have := h2 j hji hjk
    rw [ed_get _ _ hj] at this
    exact decide_eq_true this
  · have a1 := h0 k hik (by omega)
    have a2 := h3 (by omega)
    have a3 := hm.mono hkj hj
    rw [ed_get _ _ hj] at a3
    exact decide_eq_false (by omega)
def sucB (es : List Ed) (b : Int) : List Int := (es.filter fun e => decide (e.2.1 = b)).map (·.2.2)
theorem sucB_snoc (es : List Ed) (e : Ed) (b : Int) : sucB (es ++ [e]) b = if e.2.1 = b then sucB es b ++ [e.2.2] else sucB es b := by
  unfold sucB
  rw [List.filter_append, List.map_append]
  by_cases h : e.2.1 = b <;> simp [h]
theorem sucB_len (es : List Ed) (b : Int) : (sucB es b).length ≤ es.length := by
  unfold sucB; rw [List.length_map]; exact List.length_filter_le _ _
end Go.Vc
namespace Go.Proofs.YtbajgbkkbabmlaaGreatDoor
open Go.Vc

theorem succL_out (es : List Ed) (a b : Int) : succL es a b = ((outL es a).filter fun e => decide (e.2.1 = b)).map (·.2.2) := by
  unfold succL outL
  rw [List.filter_filter]
  congr 1
  refine List.filter_congr fun e _ => ?_
  by_cases h1 : e.1 = a <;> by_cases h2 : e.2.1 = b <;> simp [h1, h2]
theorem info_edge : (Tryz.prog.info? 64).map (·.size) = some 3 := by kernel_rfl
theorem from_ct (e : Ed) (node : Int) (h : Heap) : Ct Tryz.prog 100 #[.agg #[.int .i64 e.1, .int .i64 e.2.1, .int .i64 e.2.2], .int .i64 node] h (fun v h' => v = .int .i64 (cmpI e.1 node) ∧ Ext h h') := by
  refine Ct.enter (args := [.agg #[.int .i64 e.1, .int .i64 e.2.1, .int .i64 e.2.2], .int .i64 node]) Tryz.func100 rfl Tryz.ntmps100 (by simp) fun w hw => ?_
  -- at 080
  refine Run.adv 2 [] (at_ Tryz.f100 [0,8,0]) [(0, .agg #[.int .i64 e.1, .int .i64 e.2.1, .int .i64 e.2.2]), (1, .int .i64 node)]
    (True)
    (by as_aux_lemma => kernel_rfl) trivial fun s_ => ?_
  refine Run.new #[.int .i64 e.1, .int .i64 e.2.1, .int .i64 e.2.2] 64 (fun g_ => .pointer (some ⟨g_, 0, none⟩)) (some 2) (at_ Tryz.f100 [0,8,1]) (by as_aux_lemma => kernel_rfl) fun g1 h1 hng1 hEg1 hBg1 => ?_
  -- at 1083
  refine Run.adv 7 [.val (.int .i64 e.1)] (at_ Tryz.f100 [1,0,8,3]) [(6, .int .i64 e.1), (7, .int .i64 node)]
    (cellH h1 ⟨g1, 0, none⟩ = some (.int .i64 e.1))
    (by as_aux_lemma => kernel_rfl) (hBg1.at (Ext.refl _) 0 rfl) fun s_ => ?_
  refine Run.call 101 #[.int .i64 e.1, .int .i64 node] (some 8) (at_ Tryz.f100 [1,0,8,4]) (by as_aux_lemma => kernel_rfl) (cmpI_ct e.1 node _) ?_
  rintro _ _ ⟨rfl, rfl⟩
  -- at 11
  refine Run.adv 2 [] (at_ Tryz.f100 [1,1]) [(4, .int .i64 (cmpI e.1 node))]
    (True)
    (by as_aux_lemma => kernel_rfl) trivial fun s_ => ?_
  refine Run.ret [] (.int .i64 (cmpI e.1 node)) (True) Tryz.func100 (by as_aux_lemma => kernel_rfl) (by as_aux_lemma => kernel_rfl) trivial ?_
  exact ⟨rfl, hEg1⟩
theorem bsearch_ct (A : Option Addr) (c : Nat) (l : Lt) (node : Int) (h : Heap) (hx : Edges h A l.es c) (hm : May l) :
    Ct Tryz.prog 102 #[.slice A l.es.length c, .int .i64 node, .func (.func 100) #[] #[]] h
      (fun v h' => ∃ (i : Nat) (b : Bool), v = .tuple #[.int .i64 (i : Int), .bool b] ∧ i ≤ l.es.length ∧ (∀ j : Nat, j < i → (ed l.es j).1 < node) ∧ (∀ j : Nat, i ≤ j → j < l.es.length → node ≤ (ed l.es j).1) ∧ Ext h h') := by
  have hlen := hm.len
  refine Ct.enter (args := [.slice A l.es.length c, .int .i64 node, .func (.func 100) #[] #[]]) Tryz.func102 rfl Tryz.ntmps102 (by simp) fun w hw => ?_
  -- at 11102
  refine Run.adv 19 [] (at_ Tryz.f102 [1,1,1,0,2]) [(0, .slice A l.es.length c), (1, .int .i64 node), (2, .func (.func 100) #[] #[]), (8, .int .i64 (l.es.length : Int)), (9, .int .i64 0), (10, .int .i64 (l.es.length : Int))]
    (True)
    (by as_aux_lemma => kernel_rfl) trivial fun s_ => ?_
  refine Run.loop (at_ Tryz.f102 [1,1,1,0,2,3]) (at_ Tryz.f102 [1,1,1,0,2,7]) (fun (⟨i, j⟩ : Nat × Nat) => [(0, .slice A l.es.length c), (1, .int .i64 node), (2, .func (.func 100) #[] #[]), (8, .int .i64 (l.es.length : Int)), (9, .int .i64 (i : Int)), (10, .int .i64 (j : Int))])
    (fun ⟨i, j⟩ h1 => i ≤ j ∧ j ≤ l.es.length ∧ (∀ q : Nat, q < i → (ed l.es q).1 < node) ∧ (∀ q : Nat, j ≤ q → q < l.es.length → node ≤ (ed l.es q).1) ∧ Ext h h1) (fun ⟨i, j⟩ => j - i) (0, l.es.length) (by as_aux_lemma => kernel_rfl) rfl ?_ ?_
  · exact ⟨Nat.zero_le _, Nat.le_refl _, fun q hq => by omega, fun q h1 h2 => by omega, Ext.refl _⟩
  rintro ⟨i, j⟩ s_ h1 ⟨hij, hj, hlo, hhi, hE⟩ again
  simp only at hij hj hlo hhi hE again
  by_cases hlt : i < j
  · obtain ⟨q, hq⟩ : ∃ q, (i + j) / 2 = q := ⟨_, rfl⟩
    have hq1 : i ≤ q ∧ q < j := by omega
    have hq2 : ((i : Int) + (j : Int)) = 2 * (q : Int) ∨ ((i : Int) + (j : Int)) = 2 * (q : Int) + 1 := by omega
    obtain ⟨b, off, rfl, hp⟩ := hx.open_ (by omega)
    generalize hed : ed l.es (q : Int) = e
    have hpe := hp _ hE (q : Int) (by omega) (by omega)
    rw [show l.es.getD (q : Int).toNat (0, 0, 0) = e from hed] at hpe
    -- at 111023121086
    refine Run.adv 28 [.dec true, .say (.int .u64 ((i : Int) + (j : Int))), .say (.int .u64 (q : Int)), .say (.int .i64 (q : Int)), .val (.agg #[.int .i64 e.1, .int .i64 e.2.1, .int .i64 e.2.2])] (at_ Tryz.f102 [1,1,1,0,2,3,1,2,1,0,8,6]) [(0, .slice (some ⟨b, off, none⟩) l.es.length c), (1, .int .i64 node), (2, .func (.func 100) #[] #[]), (8, .int .i64 (l.es.length : Int)), (9, .int .i64 (i : Int)), (10, .int .i64 (j : Int)), (11, .int .i64 (q : Int)), (24, .func (.func 100) #[] #[]), (28, .agg #[.int .i64 e.1, .int .i64 e.2.1, .int .i64 e.2.2]), (29, .int .i64 node)]
      ((decide ((i : Int) < (j : Int))) = true ∧ (-9223372036854775808 ≤ (i : Int) + (j : Int) ∧ (i : Int) + (j : Int) ≤ 9223372036854775807) ∧ Says Tryz.prog (convert 3 123 (.int .i64 ((i : Int) + (j : Int)))) (.int .u64 ((i : Int) + (j : Int))) h1 ∧ Says Tryz.prog (do eqGuard .shr 123 (Operand.tmp 21) (Operand.const (.int .u64 1)) (.int .u64 ((i : Int) + (j : Int))) (.int .u64 1); binOp .shr 123 (.int .u64 ((i : Int) + (j : Int))) (.int .u64 1)) (.int .u64 (q : Int)) h1 ∧ Says Tryz.prog (convert 123 3 (.int .u64 (q : Int))) (.int .i64 (q : Int)) h1 ∧ (0 ≤ (q : Int) ∧ (q : Int) < (l.es.length : Int)) ∧ cellsAt h1 ⟨b, off + (q : Int).toNat * 3, none⟩ [.int .i64 e.1, .int .i64 e.2.1, .int .i64 e.2.2] 0)
      (by as_aux_lemma => kernel_rfl) ⟨(by first | assumption | exact decide_eq_true (by first | omega | assumption)), ⟨by omega, by omega⟩, (says_u64 _ (by omega) (by omega) _), (says_half hq2 _), (says_i64 _ (by omega) (by omega) _), ⟨by omega, by omega⟩, (by exact hpe)⟩ fun s_ => ?_
    refine Run.call 100 #[.agg #[.int .i64 e.1, .int .i64 e.2.1, .int .i64 e.2.2], .int .i64 node] (some 30) (at_ Tryz.f102 [1,1,1,0,2,3,1,2,1,0,8,7]) (by as_aux_lemma => kernel_rfl) (from_ct e node _) ?_
    rintro _ h2 ⟨rfl, hE2⟩
    by_cases hc : e.1 < node
    · have hneg : cmpI e.1 node = -1 := if_pos hc
      -- at 111027
      refine Run.adv 9 [.dec true] (at_ Tryz.f102 [1,1,1,0,2,7]) [(0, .slice (some ⟨b, off, none⟩) l.es.length c), (1, .int .i64 node), (2, .func (.func 100) #[] #[]), (8, .int .i64 (l.es.length : Int)), (9, .int .i64 ((q + 1 : Nat) : Int)), (10, .int .i64 (j : Int))]
        ((decide (cmpI e.1 node < 0)) = true ∧ (-9223372036854775808 ≤ (q : Int) + 1 ∧ (q : Int) + 1 ≤ 9223372036854775807))
        (by as_aux_lemma => kernel_rfl) ⟨(by first | assumption | exact decide_eq_true (by first | omega | assumption)), ⟨by omega, by omega⟩⟩ fun s_ => ?_
      refine again (q + 1, j) _ _ ⟨by simp only; omega, hj, fun z hz => ?_, hhi, hE.trans hE2⟩ (by simp only; omega)
      have := hm.mono (i := z) (j := q) (by simp only at hz; omega) (by omega)
      rw [hed] at this
      omega
    · have hneg : ¬ cmpI e.1 node < 0 := by unfold cmpI; rw [if_neg hc]; split <;> omega
      -- at 111027
      refine Run.adv 8 [.dec false] (at_ Tryz.f102 [1,1,1,0,2,7]) [(0, .slice (some ⟨b, off, none⟩) l.es.length c), (1, .int .i64 node), (2, .func (.func 100) #[] #[]), (8, .int .i64 (l.es.length : Int)), (9, .int .i64 (i : Int)), (10, .int .i64 (q : Int))]
        ((decide (cmpI e.1 node < 0)) = false)
        (by as_aux_lemma => kernel_rfl) (by first | assumption | exact decide_eq_false (by first | omega | assumption)) fun s_ => ?_
      refine again (i, q) _ _ ⟨by simp only; omega, by simp only; omega, hlo, fun z hz1 hz2 => ?_, hE.trans hE2⟩ (by simp only; omega)
      have := hm.mono (i := q) (j := z) hz1 hz2
      rw [hed] at this
      omega
  · obtain rfl : i = j := by omega
    by_cases hin : i < l.es.length
    · obtain ⟨b, off, rfl, hp⟩ := hx.open_ (by omega)
      generalize hed : ed l.es (i : Int) = e
      have hpe := hp _ hE (i : Int) (by omega) (by omega)
      rw [show l.es.getD (i : Int).toNat (0, 0, 0) = e from hed] at hpe
      -- at 11110811
      refine Run.adv 22 [.dec false, .dec true, .lit, .lit, .lit, .lit, .val (.agg #[.int .i64 e.1, .int .i64 e.2.1, .int .i64 e.2.2]), .lit] (at_ Tryz.f102 [1,1,1,1,0,8,11]) [(35, .int .i64 (i : Int)), (39, .bool true), (40, .func (.func 100) #[] #[]), (44, .agg #[.int .i64 e.1, .int .i64 e.2.1, .int .i64 e.2.2]), (45, .int .i64 node)]
        ((decide ((i : Int) < (i : Int))) = false ∧ (decide ((i : Int) < (l.es.length : Int))) = true ∧ (0 ≤ (i : Int) ∧ (i : Int) < (l.es.length : Int)) ∧ cellsAt h1 ⟨b, off + (i : Int).toNat * 3, none⟩ [.int .i64 e.1, .int .i64 e.2.1, .int .i64 e.2.2] 0)
        (by as_aux_lemma => kernel_rfl) ⟨(by first | assumption | exact decide_eq_false (by first | omega | assumption)), (by first | assumption | exact decide_eq_true (by first | omega | assumption)), ⟨by omega, by omega⟩, (by exact hpe)⟩ fun s_ => ?_
      refine Run.call 100 #[.agg #[.int .i64 e.1, .int .i64 e.2.1, .int .i64 e.2.2], .int .i64 node] (some 46) (at_ Tryz.f102 [1,1,1,1,0,8,12]) (by as_aux_lemma => kernel_rfl) (from_ct e node _) ?_
      rintro _ h2 ⟨rfl, hE2⟩
      -- at 11111
      refine Run.adv 5 [.lit] (at_ Tryz.f102 [1,1,1,1,1]) [(6, .int .i64 (i : Int)), (7, .bool ((cmpI e.1 node) == 0))]
        (True)
        (by as_aux_lemma => kernel_rfl) trivial fun s_ => ?_
      refine Run.ret [] (.tuple #[.int .i64 (i : Int), .bool ((cmpI e.1 node) == 0)]) (True) Tryz.func102 (by as_aux_lemma => kernel_rfl) (by as_aux_lemma => kernel_rfl) trivial ?_
      exact ⟨i, _, rfl, hj, hlo, hhi, hE.trans hE2⟩
    · -- at 11111
      refine Run.adv 28 [.dec false, .dec false, .lit, .lit, .lit, .lit, .lit, .lit, .lit] (at_ Tryz.f102 [1,1,1,1,1]) [(6, .int .i64 (i : Int)), (7, .bool false)]
        ((decide ((i : Int) < (i : Int))) = false ∧ (decide ((i : Int) < (l.es.length : Int))) = false)
        (by as_aux_lemma => kernel_rfl) ⟨(by first | assumption | exact decide_eq_false (by first | omega | assumption)), (by first | assumption | exact decide_eq_false (by first | omega | assumption))⟩ fun s_ => ?_
      refine Run.ret [] (.tuple #[.int .i64 (i : Int), .bool false]) (True) Tryz.func102 (by as_aux_lemma => kernel_rfl) (by as_aux_lemma => kernel_rfl) trivial ?_
      exact ⟨i, _, rfl, hj, hlo, hhi, hE⟩
theorem out_ct (A1 A2 : Option Addr) (c1 c2 : Nat) (l : Lt) (node : Int) (h : Heap) (hx : LtAt h l A1 c1 A2 c2) (hm : May l) :
    Ct Tryz.prog 75 #[.agg #[.int .i64 l.n, .slice A1 l.ls.length c1, .slice A2 l.es.length c2], .int .i64 node] h
      (fun v h' => ∃ A c, v = .slice A (outL l.es node).length c ∧ Edges h' A (outL l.es node) c ∧ Ext h h') := by
  have hlen := hm.len
  refine Ct.enter (args := [.agg #[.int .i64 l.n, .slice A1 l.ls.length c1, .slice A2 l.es.length c2], .int .i64 node]) Tryz.func75 rfl Tryz.ntmps75 (by simp) fun w hw => ?_
  -- at 080
  refine Run.adv 2 [] (at_ Tryz.f75 [0,8,0]) [(0, .agg #[.int .i64 l.n, .slice A1 l.ls.length c1, .slice A2 l.es.length c2]), (1, .int .i64 node)]
    (True)
    (by as_aux_lemma => kernel_rfl) trivial fun s_ => ?_
  refine Run.new #[.int .i64 l.n, .slice A1 l.ls.length c1, .slice A2 l.es.length c2] 25 (fun g_ => .pointer (some ⟨g_, 0, none⟩)) (some 2) (at_ Tryz.f75 [0,8,1]) (by as_aux_lemma => kernel_rfl) fun g1 h1 hng1 hEg1 hBg1 => ?_
  -- at 11084
  refine Run.adv 12 [.val (.slice A2 l.es.length c2)] (at_ Tryz.f75 [1,1,0,8,4]) [(1, .int .i64 node), (2, .pointer (some ⟨g1, 0, none⟩)), (11, .slice A2 l.es.length c2), (12, .int .i64 node), (13, .func (.func 100) #[] #[])]
    (cellH h1 ⟨g1, 2, none⟩ = some (.slice A2 l.es.length c2))
    (by as_aux_lemma => kernel_rfl) (hBg1.at (Ext.refl _) 2 rfl) fun s_ => ?_
  refine Run.call 102 #[.slice A2 l.es.length c2, .int .i64 node, .func (.func 100) #[] #[]] (some 14) (at_ Tryz.f75 [1,1,0,8,5]) (by as_aux_lemma => kernel_rfl) (bsearch_ct A2 c2 l node _ (hx.es.ext hEg1) hm) ?_
  rintro _ h2 ⟨i, b, rfl, hi, hlo, hhi, hE2⟩
  -- at 111102
  refine Run.adv 13 [] (at_ Tryz.f75 [1,1,1,1,0,2]) [(1, .int .i64 node), (2, .pointer (some ⟨g1, 0, none⟩)), (6, .int .i64 (i : Int)), (8, .int .i64 (i : Int))]
    (True)
    (by as_aux_lemma => kernel_rfl) trivial fun s_ => ?_
  refine Run.loop (at_ Tryz.f75 [1,1,1,1,0,2,3]) (at_ Tryz.f75 [1,1,1,1,0,2,7]) (fun k : Nat => [(1, .int .i64 node), (2, .pointer (some ⟨g1, 0, none⟩)), (6, .int .i64 (i : Int)), (8, .int .i64 (k : Int))])
    (fun k h' => h' = h2 ∧ i ≤ k ∧ k ≤ l.es.length ∧ ∀ j : Nat, i ≤ j → j < k → (ed l.es j).1 = node) (fun k => l.es.length - k) i (by as_aux_lemma => kernel_rfl) rfl ?_ ?_
  · exact ⟨rfl, Nat.le_refl _, hi, fun j h1 h2 => by omega⟩
  rintro k s_ h' ⟨rfl, hik, hk, hI⟩ again
  have hE0 := hEg1.trans hE2
  have fin : (k < l.es.length → (ed l.es k).1 ≠ node) → ∃ A c, Value.slice (if c2 = i then A2 else A2.map (·.add (i * 3))) (k - i) (c2 - i) = .slice A (outL l.es node).length c ∧ Edges h' A (outL l.es node) c ∧ Ext h h' := fun h3 => by
    have hs := outL_seg hm hik hk hlo hI hhi h3
    have hr := RowK.sub (hx.es.ext hE0) hik hk
    rw [hs] at hr
    refine ⟨_, _, ?_, hr, hE0⟩
    rw [← hs]
    simp
    omega
  have hcap := hx.es.cap
  by_cases hlt : k < l.es.length
  · obtain ⟨b2, off, hA2, hp⟩ := hx.es.open_ (by omega)
    generalize hed : ed l.es (k : Int) = e
    have hpe := hp _ hE0 (k : Int) (by omega) (by omega)
    rw [show l.es.getD (k : Int).toNat (0, 0, 0) = e from hed] at hpe
    by_cases e1 : e.1 = node
    · subst hA2
      -- at 1111027
      refine Run.adv 28 [.val (.slice (some ⟨b2, off, none⟩) l.es.length c2), .dec true, .lit, .val (.slice (some ⟨b2, off, none⟩) l.es.length c2), .lit, .lit, .lit, .lit, .val (.int .i64 e.1), .lit, .lit, .dec true] (at_ Tryz.f75 [1,1,1,1,0,2,7]) [(1, .int .i64 node), (2, .pointer (some ⟨g1, 0, none⟩)), (6, .int .i64 (i : Int)), (8, .int .i64 ((k + 1 : Nat) : Int))]
        (cellH h' ⟨g1, 2, none⟩ = some (.slice (some ⟨b2, off, none⟩) l.es.length c2) ∧ (decide ((k : Int) < (l.es.length : Int))) = true ∧ cellH h' ⟨g1, 2, none⟩ = some (.slice (some ⟨b2, off, none⟩) l.es.length c2) ∧ (0 ≤ (k : Int) ∧ (k : Int) < (l.es.length : Int)) ∧ cellH h' ⟨b2, off + (k : Int).toNat * 3, none⟩ = some (.int .i64 e.1) ∧ (e.1 == node) = true ∧ (-9223372036854775808 ≤ (k : Int) + 1 ∧ (k : Int) + 1 ≤ 9223372036854775807))
        (by as_aux_lemma => kernel_rfl) ⟨(hBg1.at hE2 2 rfl), (by first | assumption | exact decide_eq_true (by first | omega | assumption)), (hBg1.at hE2 2 rfl), ⟨by omega, by omega⟩, (hpe.1), (beq_iff_eq.2 (by first | omega | assumption)), ⟨by omega, by omega⟩⟩ fun s_ => ?_
      refine again (k + 1) _ _ ⟨rfl, by omega, by omega, fun j h1 h2 => ?_⟩ (by omega)
      by_cases e2 : j = k
      · subst e2; rw [hed]; exact e1
      · exact hI j h1 (by omega)
    · have hfin := fin (fun _ => by rw [hed]; exact e1)
      subst hA2
      obtain ⟨A', c', hv, hr, hEE⟩ := hfin
      -- at 111111
      refine Run.adv 30 [.val (.slice (some ⟨b2, off, none⟩) l.es.length c2), .dec true, .lit, .val (.slice (some ⟨b2, off, none⟩) l.es.length c2), .lit, .lit, .lit, .lit, .val (.int .i64 e.1), .lit, .lit, .dec false, .val (.slice (some ⟨b2, off, none⟩) l.es.length c2), .say (.slice (if c2 = i then some ⟨b2, off, none⟩ else (some (⟨b2, off, none⟩ : Addr)).map (·.add (i * 3))) (k - i) (c2 - i))] (at_ Tryz.f75 [1,1,1,1,1,1]) [(4, .slice (if c2 = i then some ⟨b2, off, none⟩ else (some (⟨b2, off, none⟩ : Addr)).map (·.add (i * 3))) (k - i) (c2 - i))]
        (cellH h' ⟨g1, 2, none⟩ = some (.slice (some ⟨b2, off, none⟩) l.es.length c2) ∧ (decide ((k : Int) < (l.es.length : Int))) = true ∧ cellH h' ⟨g1, 2, none⟩ = some (.slice (some ⟨b2, off, none⟩) l.es.length c2) ∧ (0 ≤ (k : Int) ∧ (k : Int) < (l.es.length : Int)) ∧ cellH h' ⟨b2, off + (k : Int).toNat * 3, none⟩ = some (.int .i64 e.1) ∧ (e.1 == node) = false ∧ cellH h' ⟨g1, 2, none⟩ = some (.slice (some ⟨b2, off, none⟩) l.es.length c2) ∧ Says Tryz.prog (Instr.sliceAt 23 (.slice (some ⟨b2, off, none⟩) l.es.length c2) (some (.int .i64 (i : Int))) (some (.int .i64 (k : Int))) none) (.slice (if c2 = i then some ⟨b2, off, none⟩ else (some (⟨b2, off, none⟩ : Addr)).map (·.add (i * 3))) (k - i) (c2 - i)) h')
        (by as_aux_lemma => kernel_rfl) ⟨(hBg1.at hE2 2 rfl), (by first | assumption | exact decide_eq_true (by first | omega | assumption)), (hBg1.at hE2 2 rfl), ⟨by omega, by omega⟩, (hpe.1), (beq_eq_false_iff_ne.2 (by first | omega | assumption)), (hBg1.at hE2 2 rfl), (says_sub Tryz.underlying23 info_edge (by omega) (by omega) _)⟩ fun s_ => ?_
      refine Run.ret [] (.slice (if c2 = i then some ⟨b2, off, none⟩ else (some (⟨b2, off, none⟩ : Addr)).map (·.add (i * 3))) (k - i) (c2 - i)) (True) Tryz.func75 (by as_aux_lemma => kernel_rfl) (by as_aux_lemma => kernel_rfl) trivial ?_
      exact ⟨A', c', hv, hr, hEE⟩
  · obtain ⟨A', c', hv, hr, hEE⟩ := fin (fun hh => absurd hh hlt)
    -- at 111111
    refine Run.adv 30 [.val (.slice A2 l.es.length c2), .dec false, .lit, .lit, .lit, .lit, .lit, .lit, .lit, .lit, .val (.slice A2 l.es.length c2), .say (.slice (if c2 = i then A2 else A2.map (·.add (i * 3))) (k - i) (c2 - i))] (at_ Tryz.f75 [1,1,1,1,1,1]) [(4, .slice (if c2 = i then A2 else A2.map (·.add (i * 3))) (k - i) (c2 - i))]
      (cellH h' ⟨g1, 2, none⟩ = some (.slice A2 l.es.length c2) ∧ (decide ((k : Int) < (l.es.length : Int))) = false ∧ cellH h' ⟨g1, 2, none⟩ = some (.slice A2 l.es.length c2) ∧ Says Tryz.prog (Instr.sliceAt 23 (.slice A2 l.es.length c2) (some (.int .i64 (i : Int))) (some (.int .i64 (k : Int))) none) (.slice (if c2 = i then A2 else A2.map (·.add (i * 3))) (k - i) (c2 - i)) h')
      (by as_aux_lemma => kernel_rfl) ⟨(hBg1.at hE2 2 rfl), (by first | assumption | exact decide_eq_false (by first | omega | assumption)), (hBg1.at hE2 2 rfl), (says_sub Tryz.underlying23 info_edge (by omega) (by omega) _)⟩ fun s_ => ?_
    refine Run.ret [] (.slice (if c2 = i then A2 else A2.map (·.add (i * 3))) (k - i) (c2 - i)) (True) Tryz.func75 (by as_aux_lemma => kernel_rfl) (by as_aux_lemma => kernel_rfl) trivial ?_
    exact ⟨A', c', hv, hr, hEE⟩
theorem cloneE_ct (A : Option Addr) (c : Nat) (es : List Ed) (h : Heap) (hx : Edges h A es c) (hl : es.length ≤ 1000000) :
    Ct Tryz.prog 74 #[.slice A es.length c] h (fun v h' => ∃ A c, v = .slice A es.length c ∧ Edges h' A es c ∧ Ext h h') := by
  cases A with
  | none =>
    have he : es.length = 0 := by
      rcases Nat.eq_zero_or_pos es.length with e | e
      · exact e
      · obtain ⟨b, off, hh, _⟩ := hx.open_ e; cases hh
    refine Ct.enter (args := [.slice none es.length c]) Tryz.func74 rfl Tryz.ntmps74 (by simp) fun w hw => ?_
    -- at 10141
    refine Run.adv 15 [.say (.bool true), .lit] (at_ Tryz.f74 [1,0,1,4,1]) [(2, .slice none 0 0)]
      (Says Tryz.prog (do eqGuard .eql 23 (Operand.tmp 3) (Operand.const (.slice none 0 0)) (.slice none es.length c) (.slice none 0 0); binOp .eql 23 (.slice none es.length c) (.slice none 0 0)) (.bool true) h)
      (by as_aux_lemma => kernel_rfl) (says_nil Tryz.underlying23 _) fun s_ => ?_
    refine Run.ret [] (.slice none 0 0) (True) Tryz.func74 (by as_aux_lemma => kernel_rfl) (by as_aux_lemma => kernel_rfl) trivial ?_
    have hes := List.eq_nil_of_length_eq_zero he
    subst hes
    exact ⟨none, 0, rfl, ⟨by simp, by simp, fun hp => by simp at hp⟩, Ext.refl _⟩
  | some a =>
    refine Ct.enter (args := [.slice (some a) es.length c]) Tryz.func74 rfl Tryz.ntmps74 (by simp) fun w hw => ?_
    -- at 11080
    refine Run.adv 14 [.say (.bool false), .lit] (at_ Tryz.f74 [1,1,0,8,0]) [(0, .slice (some a) es.length c)]
      (Says Tryz.prog (do eqGuard .eql 23 (Operand.tmp 3) (Operand.const (.slice none 0 0)) (.slice (some a) es.length c) (.slice none 0 0); binOp .eql 23 (.slice (some a) es.length c) (.slice none 0 0)) (.bool false) h)
      (by as_aux_lemma => kernel_rfl) (says_nil Tryz.underlying23 _) fun s_ => ?_
    refine Run.new #[] 64 (fun g_ => .slice (some ⟨g_, 0, none⟩) 0 0) (some 5) (at_ Tryz.f74 [1,1,0,8,1]) (by as_aux_lemma => kernel_rfl) fun g1 h1 hng1 hEg1 hBg1 => ?_
    have hO1 := Own.of_blk (sz := 3) (n := 0) hBg1 rfl
    -- at 11082
    refine Run.adv 1 [] (at_ Tryz.f74 [1,1,0,8,2]) [(5, .slice (some ⟨g1, 0, none⟩) 0 0), (6, .slice (some a) es.length c)]
      (True)
      (by as_aux_lemma => kernel_rfl) trivial fun s_ => ?_
    refine Run.append (.slice (some ⟨g1, 0, none⟩) 0 0) (.slice (some a) es.length c) 64 (some 7) (at_ Tryz.f74 [1,1,0,8,3]) 3 24 (by as_aux_lemma => kernel_rfl) (by as_aux_lemma => kernel_rfl) (by decide) hO1 (hx.src enc3_len hEg1) (by rw [flatMap_length enc3_len]) (by simp [encE, Vc.one]) (by omega) fun A4 c4 h4 og4 hOA4 hMh4 hgA4 => ?_
    have hEh_h4 := hMh4.ext hEg1 (by exact fun g' e => by cases e; omega)
    -- at 111
    refine Run.adv 2 [] (at_ Tryz.f74 [1,1,1]) [(2, .slice A4 (0 + es.length) c4)]
      (True)
      (by as_aux_lemma => kernel_rfl) trivial fun s_ => ?_
    refine Run.ret [] (.slice A4 (0 + es.length) c4) (True) Tryz.func74 (by as_aux_lemma => kernel_rfl) (by as_aux_lemma => kernel_rfl) trivial ?_
    have hO := hOA4
    rw [Nat.zero_add, List.nil_append] at hO
    obtain ⟨A5, c5, hv, hr⟩ := hO.rowK (d := (0, 0, 0)) enc3_len (by omega)
    exact ⟨A5, c5, by rw [Nat.zero_add]; exact hv, hr, hEh_h4⟩
end Go.Proofs.YtbajgbkkbabmlaaGreatDoor
