/- The engine's fifth part: contracts of the library, as the kit's shelf states them, told on heaps. -/
import Derived.Test.YtbajgbkkbabmlaaGreatDoorVp
import Derived.Sort.Row
import Derived.Sort.Grow
import Derived.Shelf.GgSortFunc.RowK
import Derived.Laws.AppendOwn
set_option linter.unusedVariables false
set_option linter.unusedSimpArgs false
namespace Go.Vc
open Go.Sort

theorem heap_put {α : Type} [Inhabited α] {w : World} {g : Nat} {t : TypeId} {arr : Array Value} {enc : α → Value} {d : Array α} {q : Nat} {os : Array Obj} (hb : Blk w.heap g arr t) :
    Blk (grow (putRow enc (Sort.ahead w q) g 0 d) os).heap g (putCells enc 0 d arr) t ∧ Mod (some g) w.heap (grow (putRow enc (Sort.ahead w q) g 0 d) os).heap ∧ Same1 w (grow (putRow enc (Sort.ahead w q) g 0 d) os) := by
  have hlt := hb.lt
  have hh : (grow (putRow enc (Sort.ahead w q) g 0 d) os).heap = w.heap.modify g (onCells (putCells enc 0 d)) ++ os := rfl
  refine ⟨?_, ⟨by rw [hh]; simp, fun b hlt2 hn => ?_⟩, ⟨rfl, rfl, rfl, Nat.le_add_right _ _⟩⟩
  · unfold Blk at *
    rw [hh, Array.getElem?_append_left (by simpa using hlt), Array.getElem?_modify, if_pos rfl, hb]
    rfl
  · rw [hh, Array.getElem?_append_left (by simpa using hlt2), Array.getElem?_modify, if_neg (by intro e; exact hn (by rw [e]))]
theorem putCells_take {α : Type} [Inhabited α] (enc : α → Value) (d : Array α) (arr : Array Value) (hs : d.size ≤ arr.size) : (putCells enc 0 d arr).toList.take d.size = d.toList.map enc := by
  apply List.ext_getElem?
  intro i
  rw [List.getElem?_take, List.getElem?_map]
  by_cases hi : i < d.size
  · rw [if_pos hi]
    simp [putCells, hi, show i < arr.size by omega]
  · rw [if_neg hi]
    simp [hi]
theorem putRow_own {α : Type} [Inhabited α] {w : World} {g n c sz : Nat} {t : TypeId} {cs : List Value} {enc : α → Value} {d : Array α} {q : Nat} {os : Array Obj}
    (o : Own w.heap t sz (.slice (some ⟨g, 0, none⟩) n c) n cs (some g)) (hd : d.size = n * sz) :
    Own (grow (putRow enc (Sort.ahead w q) g 0 d) os).heap t sz (.slice (some ⟨g, 0, none⟩) n c) n (d.toList.map enc) (some g) ∧ Mod (some g) w.heap (grow (putRow enc (Sort.ahead w q) g 0 d) os).heap ∧ Same1 w (grow (putRow enc (Sort.ahead w q) g 0 d) os) := by
  obtain ⟨cap, arr, hv, hb, hl, ht, hs, hn, hm⟩ := o
  obtain ⟨h1, h2, h3⟩ := heap_put (enc := enc) (d := d) (q := q) (os := os) hb
  have hle : d.size ≤ arr.size := by rw [hs, hd]; exact Nat.mul_le_mul_right _ hn
  exact ⟨⟨cap, _, hv, h1, by simp [hd], by rw [← hd, putCells_take enc d arr hle], by simp [putCells, hs], hn, hm⟩, h2, h3⟩
theorem Own.holds {α : Type} [Inhabited α] {w : World} {g n c sz : Nat} {t : TypeId} {cs : List Value} {enc : α → Value} {d : Array α} (o : Own w.heap t sz (.slice (some ⟨g, 0, none⟩) n c) n cs (some g)) (hd : cs = d.toList.map enc) : Holds enc w g 0 d := by
  intro j hj
  have h1 : cs[j]? = some (enc d[j]!) := by rw [hd]; simp [hj]
  have h2 := o.cell h1
  obtain ⟨cap, arr, hv, hb, hl, ht, hs, hn, hm⟩ := o
  refine ⟨by rw [Nat.zero_add, cellH_eq]; exact h2, ?_⟩
  unfold Blk at hb
  simp [World.frozen?, hb]
theorem Own.row {w : World} {t : TypeId} {sz : Nat} {v : Value} {n : Nat} {cs : List Value} {og : Option Nat} (o : Own w.heap t sz v n cs og) {B : Nat} (hB : ∀ g, og = some g → B ≤ g) : w.ownsRow B t sz v n cs := by
  cases og with
  | none => obtain ⟨rfl, rfl, rfl⟩ := o; exact ⟨by simp, .inl ⟨rfl, rfl⟩⟩
  | some g => obtain ⟨cap, arr, hv, hb, hl, ht, hs, hn, hm⟩ := o; exact ⟨hl, .inr ⟨g, cap, arr, hv, hB g rfl, hb, hn, hm, hs, ht⟩⟩
theorem own_row {w : World} {t : TypeId} {sz : Nat} {v : Value} {n : Nat} {cs : List Value} {B : Nat} (o : w.ownsRow B t sz v n cs) : ∃ og, Own w.heap t sz v n cs og ∧ ∀ g, og = some g → B ≤ g := by
  obtain ⟨hl, ⟨rfl, rfl⟩ | ⟨g, cap, arr, hv, hB, hb, hn, hm, hs, ht⟩⟩ := o
  · exact ⟨none, ⟨rfl, rfl, List.eq_nil_of_length_eq_zero (by simpa using hl)⟩, by simp⟩
  · exact ⟨some g, ⟨cap, arr, hv, hb, hl, ht, hs, hn, hm⟩, fun g' e => by cases e; exact hB⟩

/-! ### append(nil, make(..)...) -/
theorem zeroCells_one (z0 : Value) (n : Nat) : Builtin.zeroCells #[z0] n = Array.replicate n z0 := by
  unfold Builtin.zeroCells
  apply Array.ext
  · simp
  · intro i h1 h2; simp [Nat.mod_one]
def appendZOf (P : Program) (ρ : Operand → Value) (o : Oper) : Option (Value × Value × TypeId) :=
  match o.op with
  | .call { callee := .builtin .append, args, argTypes } => match args.toList.map ρ, argTypes.toList with
    | [sv, xv], [st, xt] => match P.underlying st, P.underlying xt with
      | some (.slice e), some d => if isIntD d then some (sv, xv, e) else none
      | _, _ => none
    | _, _ => none
  | _ => none
section
variable {P : Program} {f : FuncId} {n : Nat} {k k1 : List Item} {s : Env} {h : Heap} {w0 : Base} {R : Value → Heap → Prop}
theorem appendZ_run {e : TypeId} {inf : TypeInfo} {z : Value} {z0 : Value} {m : Nat} {st xt : TypeId} {d : TypeDesc} (ty : TypeId) (w : World)
    (hu : P.underlying st = some (.slice e)) (hxu : P.underlying xt = some d) (hd : isIntD d = true) (hi : P.info? e = some inf) (hz : inf.zero = some z) (hz1 : z.cells = #[z0]) (hs1 : inf.size = 1) (hb0 : 0 < inf.bytes)
    (hm : 1 ≤ m) (hb : (2 * m + 400) * inf.bytes ≤ 281474976710656) :
    ∃ c w', (Builtin.append_ #[st, xt] ty #[.slice none 0 0, .int .i64 m]).run P w = .ok (.slice (some ⟨w.heap.size, 0, none⟩) m c) w' ∧ Same1 w w' ∧ Own w'.heap e 1 (.slice (some ⟨w.heap.size, 0, none⟩) m c) m (List.replicate m z0) (some w.heap.size) ∧ Ext w.heap w'.heap := by
  have hcell : P.cellsOf e = inf.size := by simp [Program.cellsOf, hi]
  have hso : (sizeOf e).run P w = .ok 1 w := by rw [run_sizeOf_eq hi, hcell, hs1]
  have hmb : m * 1 ≤ (2 * m + 400) * inf.bytes := Nat.mul_le_mul (by omega) hb0
  have hmm : m * inf.bytes ≤ (2 * m + 400) * inf.bytes := Nat.mul_le_mul_right _ (by omega)
  have hwr : IntKind.i64.wrap (m : Int) = m := fits_wrap (h := w.heap) ⟨by omega, by omega⟩
  have h1 : ¬ Builtin.nextslicecap m 0 * inf.bytes > 2 ^ 48 := by
    have := nextslicecap_le (m := m) (c := 0) (by omega)
    have := Nat.mul_le_mul_right inf.bytes this
    omega
  have h2 : inf.bytes ≠ 0 := by omega
  have h3 : ¬ ((m : Int) * inf.bytes > 2 ^ 48) := by
    have : ((m * inf.bytes : Nat) : Int) ≤ ((281474976710656 : Nat) : Int) := Int.ofNat_le.2 (by omega)
    rw [Int.natCast_mul] at this
    omega
  obtain ⟨nc, hnce⟩ : ∃ nc, nc = (Question.appendCap m 0 e).cut (w.tape w.drawn (.appendCap m 0 e)) := ⟨_, rfl⟩
  have hnc : m ≤ nc := by rw [hnce]; simp [Question.cut]
  have hncm : nc ≤ 9223372036854775807 := by
    have hlt := Nat.mod_lt (w.tape w.drawn (.appendCap m 0 e)) (show 0 < 2 ^ 63 - m by omega)
    rw [hnce]
    simp only [Question.cut]
    omega
  have hzr : ∀ w' : World, (zeroValue e).run P w' = .ok z w' := fun w' => run_zero hi hz
  refine ⟨nc, { w with drawn := w.drawn + 1, heap := w.heap.push (.cells (#[] ++ Builtin.zeroCells z.cells m ++ Builtin.zeroCells z.cells (nc - m)) e (0, 0)) }, ?_, ⟨rfl, rfl, rfl, Nat.le_succ _⟩, ?_, ext_push _ _⟩
  · unfold Builtin.append_
    have hm0 : m ≠ 0 := by omega
    have hneg : ¬ ((m : Int) < 0) := by omega
    have h3' : ¬ (281474976710656 < (m : Int) * inf.bytes) := by omega
    have hmx : ¬ (9223372036854775807 < (m : Int)) := by omega
    have hmm : IntKind.i64.max = 9223372036854775807 := by decide
    simp only [List.getElem?_toArray, List.getElem?_cons_zero, List.getElem?_cons_succ, Sem.run_bind, run_underlying hu, Result.andThen, hso, run_underlying hxu, Sem.run_pure]
    cases d <;> simp [isIntD] at hd
    simp [asInt, asIntOf, hwr, hneg, run_typeInfo _ hi, h3', hm0, hmm, hmx, h1, Result.andThen, Nat.mul_one, Builtin.firstCells, run_askRoom, hzr, newRow, newObj, Sem.run, Question.forced, ← hnce]
    exact ⟨rfl, rfl, rfl⟩
  · rw [hz1, zeroCells_one, zeroCells_one]
    refine ⟨nc, _, rfl, blk_push _ _ _, by simp, ?_, by simp; omega, hnc, hncm⟩
    simp [List.take_append_of_le_length]

theorem OpK.appendZ {o : Oper} {m : Nat} {e : TypeId} {z0 : Value} {bytes : Nat} {K : Env → Heap → Prop} (hc : appendZOf P (evD n s) o = some (.slice none 0 0, .int .i64 m, e))
    (hinf : ((P.info? e).bind fun i => i.zero.map fun z => (i.size, i.bytes, z.cells)) = some (1, bytes, #[z0])) (hb0 : 0 < bytes) (hm : 1 ≤ m) (hb : (2 * m + 400) * bytes ≤ 281474976710656)
    (hr : ∀ g c h', g = h.size → Own h' e 1 (.slice (some ⟨g, 0, none⟩) m c) m (List.replicate m z0) (some g) → Ext h h' → K (putO s o.dst (.slice (some ⟨g, 0, none⟩) m c)) h') : OpK P n s h w0 o K := fun a w ha hwh h0 => by
  simp only [Option.bind_eq_some_iff, Option.map_eq_some_iff, Prod.mk.injEq] at hinf
  obtain ⟨inf, hi, z, hz, hs1, rfl, hz1⟩ := hinf
  obtain ⟨dst, op, type, p, after, guard⟩ := o
  unfold appendZOf at hc
  simp only at hc
  split at hc
  · rename_i args argTypes
    split at hc
    · rename_i sv2 xv2 st xt hargs hts
      split at hc
      · rename_i e2 d hu hxu
        split at hc
        · rename_i hd
          simp only [Option.some.injEq, Prod.mk.injEq] at hc
          obtain ⟨rfl, rfl, rfl⟩ := hc
          subst hwh
          obtain ⟨c, w', r1, r2, r3, r4⟩ := appendZ_run (P := P) type w hu hxu hd hi hz hz1 hs1 hb0 hm hb
          have ha1 : args.map (evD n s) = #[.slice none 0 0, .int .i64 m] := by
            apply Array.ext'; simpa using hargs
          have ha2 : argTypes = #[st, xt] := by
            apply Array.ext'; simpa using hts
          simp only [Oper.wp, eval_eq ha]
          have hrun : (execOp (evD n s) { dst := dst, op := .call { callee := .builtin .append, args := args, argTypes := argTypes }, type := type, pos := p, after := after, guard := guard }).run P w = .ok (.value (.slice (some ⟨w.heap.size, 0, none⟩) m c)) w' := by
            simp only [execOp, resolve, Sem.run_bind, Sem.run_pure, Result.andThen, invoke, builtin, ha1, ha2, r1]
          rw [hrun, Oper.upon_value]
          exact ⟨_, _, ha.put dst _, rfl, h0.trans r2, hr _ c _ rfl r3 r4⟩
        · cases hc
      · cases hc
    · cases hc
  · cases hc
theorem Run.appendZ (m : Nat) (e : TypeId) (z0 : Value) (bytes : Nat) (dst : Option Nat) (k1 : List Item)
    (he : ((nextOp n s k).bind fun x => (appendZOf P (evD n s) x.1).map fun c => (c.1, c.2.1, c.2.2, x.1.dst, x.2)) = some (.slice none 0 0, .int .i64 m, e, dst, k1))
    (hinf : ((P.info? e).bind fun i => i.zero.map fun z => (i.size, i.bytes, z.cells)) = some (1, bytes, #[z0])) (hb0 : 0 < bytes) (hm : 1 ≤ m) (hb : (2 * m + 400) * bytes ≤ 281474976710656)
    (hr : ∀ g c h', g = h.size → Own h' e 1 (.slice (some ⟨g, 0, none⟩) m c) m (List.replicate m z0) (some g) → Ext h h' → Run P f n k1 (putO s dst (.slice (some ⟨g, 0, none⟩) m c)) h' w0 R) : Run P f n k s h w0 R := by
  simp only [Option.bind_eq_some_iff, Option.map_eq_some_iff, Prod.mk.injEq] at he
  obtain ⟨⟨o, k2⟩, hn, ⟨sv', xv', e'⟩, hc, rfl, rfl, rfl, rfl, rfl⟩ := he
  obtain ⟨ops, i, rest, k', rfl, rfl, ho, hw⟩ := nextOp_ok hn
  exact Run.op ho hw (OpK.appendZ hc hinf hb0 hm hb hr)
end
/-- What one owns, cut to nothing, is one's own. -/
theorem Own.cut0 {h : Heap} {t : TypeId} {sz n c g : Nat} {cs : List Value} (o : Own h t sz (.slice (some ⟨g, 0, none⟩) n c) n cs (some g)) : Own h t sz (.slice (some ⟨g, 0, none⟩) 0 c) 0 [] (some g) := by
  obtain ⟨cap, arr, hv, hb, hl, ht, hs, hn, hm⟩ := o
  injection hv with h1 h2 h3
  subst h3
  exact ⟨c, arr, rfl, hb, by simp, by simp, hs, Nat.zero_le _, hm⟩
/-- .. cut to its first m elements. -/
theorem Own.cut {h : Heap} {t : TypeId} {sz n c g m : Nat} {cs : List Value} (o : Own h t sz (.slice (some ⟨g, 0, none⟩) n c) n cs (some g)) (hm : m ≤ n) : Own h t sz (.slice (some ⟨g, 0, none⟩) m c) m (cs.take (m * sz)) (some g) := by
  obtain ⟨cap, arr, hv, hb, hl, ht, hs, hn, hcm⟩ := o
  injection hv with h1 h2 h3
  subst h3
  have hle : m * sz ≤ n * sz := Nat.mul_le_mul_right _ hm
  exact ⟨c, arr, rfl, hb, by rw [List.length_take, hl, Nat.min_eq_left hle], by rw [← ht, List.take_take, Nat.min_eq_left hle], hs, Nat.le_trans hm hn, hcm⟩
theorem addr_add0 (A : Option Addr) (x : Nat) : A.map (·.add (0 * x)) = A := by
  cases A with
  | none => rfl
  | some a => simp [Addr.add]
/-- s[:j] -/
theorem says_to {P : Program} {t e : TypeId} (ht : P.underlying t = some (.slice e)) (hi : (P.info? e).isSome = true) {A : Option Addr} {n c j : Nat} (hj : j ≤ c) (h : Heap) :
    Says P (Instr.sliceAt t (.slice A n c) none (some (.int .i64 j)) none) (.slice A j c) h := by
  intro w _
  obtain ⟨i, hi⟩ := Option.isSome_iff_exists.1 hi
  have h1 : (j : Int) ≤ c := by omega
  simp only [Instr.sliceAt, Sem.run_bind, run_underlying ht, Result.andThen, Instr.slice, Instr.sliceBounds, Instr.sliceBound, asIntOf, Sem.run_pure]
  rw [if_pos ⟨by omega, h1⟩]
  simp only [Sem.run_pure, Sem.run_bind, Result.andThen, run_sizeOf_eq hi, addr_add0, Int.toNat_natCast, Nat.sub_zero, ite_self]
theorem cellsAt_of {h : Heap} {a : Addr} : ∀ (l : List Value) (i : Nat), (∀ j, j < l.length → cellH h (a.add (i + j)) = l[j]?) → cellsAt h a l i
  | [], _, _ => trivial
  | v :: l, i, hc => ⟨by simpa using hc 0 (by simp), cellsAt_of l (i + 1) fun j hj => by
      have := hc (j + 1) (by simpa using hj)
      rw [show i + 1 + j = i + (j + 1) from by omega]
      simpa using this⟩
theorem Row1.src {α : Type} {P : Program} {h h' : Heap} {A : Option Addr} {enc : α → Value} {d : α} {xs : List α} {c : Nat} (r : Row1 h A enc d xs c) (E : Ext h h') : Src P h' (.slice A xs.length c) 1 xs.length (xs.map enc) := by
  by_cases hn : xs.length = 0
  · have hx : xs = [] := List.eq_nil_of_length_eq_zero hn
    subst hx
    cases A with
    | none => exact Src.nil
    | some a => exact Src.row (xs := []) trivial rfl
  · obtain ⟨b, off, rfl, hp⟩ := r.open_ (by omega)
    refine Src.row (cellsAt_of _ 0 fun j hj => ?_) (by simp)
    have hj' : j < xs.length := by simpa using hj
    have := hp h' E j (by omega) (by omega)
    rw [Nat.zero_add, addr_add, ← Int.toNat_natCast j, this]
    simp [List.getD_eq_getElem?_getD, hj']
theorem all_one {α : Type} {enc : α → Value} (h : ∀ x, one (enc x) = true) (xs : List α) : (xs.map enc).all one = true := by simp [h]
end Go.Vc
