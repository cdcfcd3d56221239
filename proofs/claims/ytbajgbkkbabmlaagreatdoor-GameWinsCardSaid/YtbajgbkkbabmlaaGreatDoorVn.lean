/- The engine's sixth part: stores into what one owns, copies, clears, slices of slices. -/
import Derived.Test.YtbajgbkkbabmlaaGreatDoorVs
import Derived.Test.YtbajgbkkbabmlaaGreatDoorVd
set_option linter.unusedVariables false
set_option linter.unusedSimpArgs false
namespace Go.Vc

/-- A contract that leaves the heap, as one that only adds to it. -/
theorem CtB.toE {d : Bool} {P : Program} {f : FuncId} {args : Array Value} {h : Heap} {u : Value} (c : CtB d P f args h (fun v h' => v = u ∧ h' = h)) : CtB d P f args h (fun v h' => v = u ∧ Ext h h') := c.mono fun v h' ⟨a, b⟩ => ⟨a, b ▸ Ext.refl _⟩
theorem CtB.is {d : Bool} {P : Program} {f : FuncId} {args : Array Value} {h : Heap} {u u' : Value} {Q : Heap → Prop} (c : CtB d P f args h (fun v h' => v = u ∧ Q h')) (e : u = u') : CtB d P f args h (fun v h' => v = u' ∧ Q h') := c.mono fun v h' ⟨a, b⟩ => ⟨a.trans e, b⟩

/-! ### Cells put into a list -/
def setL (cs : List Value) (off : Nat) : List Value → List Value
  | [] => cs
  | v :: r => setL (cs.set off v) (off + 1) r
theorem setL_len : ∀ (vs : List Value) (cs : List Value) (off : Nat), (setL cs off vs).length = cs.length
  | [], _, _ => rfl
  | v :: r, cs, off => by simp [setL, setL_len r]
theorem setAt_toList : ∀ (vs : List Value) (arr : Array Value) (off : Nat), (setAt arr off vs).toList = setL arr.toList off vs
  | [], _, _ => rfl
  | v :: r, arr, off => by simp [setAt, setL, setAt_toList r]
theorem setL_take : ∀ (vs : List Value) (cs : List Value) (off m : Nat), (setL cs off vs).take m = setL (cs.take m) off vs
  | [], _, _, _ => rfl
  | v :: r, cs, off, m => by simp only [setL]; rw [setL_take r, List.take_set]
theorem setL_eq : ∀ (vs : List Value) (cs : List Value) (off : Nat), off + vs.length ≤ cs.length → setL cs off vs = cs.take off ++ vs ++ cs.drop (off + vs.length)
  | [], cs, off, _ => by simp [setL]
  | v :: r, cs, off, h => by
    simp only [List.length_cons] at h
    simp only [setL]
    rw [setL_eq r _ _ (by simp; omega)]
    have h1 : (cs.set off v).take (off + 1) = cs.take off ++ [v] := by
      rw [List.take_set, List.take_succ_eq_append_getElem (by omega), List.set_append_right _ _ (by simp; omega)]
      simp [List.length_take, show off - min off cs.length = 0 by omega]
    have h2 : (cs.set off v).drop (off + 1 + r.length) = cs.drop (off + (r.length + 1)) := by
      rw [List.drop_set_of_lt (by omega)]; congr 1; omega
    rw [h1, h2]
    simp
theorem flatMap_take {α β : Type} {f : α → List β} {k : Nat} (hk : ∀ x, (f x).length = k) : ∀ (xs : List α) (j : Nat), (xs.flatMap f).take (j * k) = (xs.take j).flatMap f
  | [], j => by simp
  | x :: xs, 0 => by simp
  | x :: xs, j + 1 => by
    rw [List.flatMap_cons, List.take_succ_cons, List.flatMap_cons, Nat.add_mul, Nat.one_mul, Nat.add_comm, ← hk x, List.take_length_add_append, hk x, flatMap_take hk xs j]
theorem flatMap_drop {α β : Type} {f : α → List β} {k : Nat} (hk : ∀ x, (f x).length = k) : ∀ (xs : List α) (j : Nat), (xs.flatMap f).drop (j * k) = (xs.drop j).flatMap f
  | [], j => by simp
  | x :: xs, 0 => by simp
  | x :: xs, j + 1 => by
    rw [List.flatMap_cons, List.drop_succ_cons, Nat.add_mul, Nat.one_mul, Nat.add_comm, ← hk x, List.drop_length_add_append, hk x, flatMap_drop hk xs j]
theorem flatMap_length {α β : Type} {f : α → List β} {k : Nat} (hk : ∀ x, (f x).length = k) (xs : List α) : (xs.flatMap f).length = xs.length * k := by
  induction xs with
  | nil => simp
  | cons x r ih => simp [List.flatMap_cons, ih, hk, Nat.add_mul, Nat.add_comm]
theorem setL_flatMap {α : Type} {f : α → List Value} {k : Nat} (hk : ∀ x, (f x).length = k) (xs : List α) (j : Nat) (y : α) (hj : j < xs.length) : setL (xs.flatMap f) (j * k) (f y) = (xs.set j y).flatMap f := by
  have hle : (j + 1) * k ≤ xs.length * k := Nat.mul_le_mul_right _ hj
  have e : j * k + k = (j + 1) * k := by rw [Nat.add_mul, Nat.one_mul]
  rw [setL_eq _ _ _ (by rw [flatMap_length hk, hk, e]; exact hle), hk, e, flatMap_take hk, flatMap_drop hk, List.set_eq_take_append_cons_drop, if_pos hj]
  simp [List.flatMap_append]
theorem setL_map {α : Type} (f : α → Value) (xs : List α) (j : Nat) (y : α) : setL (xs.map f) j [f y] = (xs.set j y).map f := by
  simp [setL, List.map_set]

/-! ### Stores into what one owns -/
theorem Own.put {h h' : Heap} {t : TypeId} {sz n off g : Nat} {v : Value} {cs : List Value} {vs : List Value} (o : Own h t sz v n cs (some g)) (hl : off + vs.length ≤ n * sz)
    (hb : ∀ arr t', Blk h g arr t' → Blk h' g (setAt arr off vs) t') : Own h' t sz v n (setL cs off vs) (some g) := by
  obtain ⟨cap, arr, hv, hB, hcl, ht, hs, hn, hm⟩ := o
  refine ⟨cap, _, hv, hb _ _ hB, by rw [setL_len, hcl], ?_, by rw [setAt_size, hs], hn, hm⟩
  rw [setAt_toList, setL_take, ht]
section
variable {P : Program} {f : FuncId} {n : Nat} {k k1 : List Item} {s : Env} {h : Heap} {w0 : Base} {R R1 : Value → Heap → Prop}
theorem own_arr {t : TypeId} {sz m g : Nat} {v : Value} {cs : List Value} (o : Own h t sz v m cs (some g)) : ∃ arr, Blk h g arr t ∧ m * sz ≤ arr.size := by
  obtain ⟨cap, arr, hv, hB, hcl, ht, hs, hn, hm⟩ := o
  exact ⟨arr, hB, by rw [hs]; exact Nat.mul_le_mul_right _ hn⟩
theorem blk_unique {g : Nat} {c1 c2 : Array Value} {t1 t2 : TypeId} (h1 : Blk h g c1 t1) (h2 : Blk h g c2 t2) : c1 = c2 ∧ t1 = t2 := by
  unfold Blk at h1 h2
  rw [h1] at h2
  injection h2 with h2
  injection h2 with a b _
  exact ⟨a, b⟩
theorem OpK.storeOwn {o : Oper} {g off : Nat} {vs : List Value} {t : TypeId} {sz m : Nat} {v : Value} {cs : List Value} {K : Env → Heap → Prop} (hc : storeOf P (evD n s) o = some (⟨g, off, none⟩, vs)) (hd : o.dst = none)
    (ho : Own h t sz v m cs (some g)) (hl : off + vs.length ≤ m * sz) (hone : vs.all one = true)
    (hr : ∀ h', Mod (some g) h h' → h'.size = h.size → Own h' t sz v m (setL cs off vs) (some g) → K s h') : OpK P n s h w0 o K := by
  obtain ⟨arr, hB, hle⟩ := own_arr ho
  exact OpK.store hc hd hB (by omega) hone fun h' hM hz hB' => hr h' hM hz (ho.put hl fun arr' t' hb => by obtain ⟨rfl, rfl⟩ := blk_unique hB hb; exact hB')
theorem Run.storeOwn (g off : Nat) (vs : List Value) (k1 : List Item) {t : TypeId} {sz m : Nat} {v : Value} {cs : List Value}
    (he : ((nextOp n s k).bind fun x => (storeOf P (evD n s) x.1).map fun c => (c.1, c.2, x.1.dst, x.2)) = some (⟨g, off, none⟩, vs, none, k1))
    (ho : Own h t sz v m cs (some g)) (hl : off + vs.length ≤ m * sz) (hone : vs.all one = true)
    (hr : ∀ h', Mod (some g) h h' → h'.size = h.size → Own h' t sz v m (setL cs off vs) (some g) → Run P f n k1 s h' w0 R) : Run P f n k s h w0 R := by
  simp only [Option.bind_eq_some_iff, Option.map_eq_some_iff, Prod.mk.injEq] at he
  obtain ⟨⟨o, k2⟩, hn, ⟨ad, vs'⟩, hc, rfl, rfl, hd, rfl⟩ := he
  obtain ⟨ops, i, rest, k', rfl, rfl, hoo, hw⟩ := nextOp_ok hn
  exact Run.op hoo hw (OpK.storeOwn hc hd ho hl hone hr)

theorem RunA.storeOwn {ops : Array Oper} {C : HP} {qs : List Nat} {L : Array Bool} (fuel : Nat) (g off : Nat) (vs : List Value) (ex : Bool) (L1 : Array Bool) {t : TypeId} {sz m : Nat} {v : Value} {cs : List Value}
    (he : ((nextA n s ops qs L).bind fun x => (storeOf P (evD n s) x.1).map fun c => (c.1, c.2, x.1.dst, x.2.1, x.2.2)) = some (⟨g, off, none⟩, vs, none, ex, L1))
    (ho : Own h t sz v m cs (some g)) (hl : off + vs.length ≤ m * sz) (hone : vs.all one = true)
    (hr : ∀ h', Mod (some g) h h' → h'.size = h.size → Own h' t sz v m (setL cs off vs) (some g) → (ex = false → C h') ∧ RunA P f n ops C qs fuel L1 k s h' w0 R) : RunA P f n ops C qs (fuel + 1) L k s h w0 R := by
  simp only [Option.bind_eq_some_iff, Option.map_eq_some_iff, Prod.mk.injEq] at he
  obtain ⟨⟨o, ex', L2⟩, hn, ⟨ad, vs'⟩, hc, rfl, rfl, hd, rfl, rfl⟩ := he
  exact RunA.op hn (OpK.storeOwn hc hd ho hl hone hr)
/-- A made block is one's own. -/
theorem own_made {h : Heap} {g m : Nat} {z : Value} {t : TypeId} (hb : Blk h g (Array.replicate m z) t) (hm : m ≤ 9223372036854775807) : Own h t 1 (.slice (some ⟨g, 0, none⟩) m m) m (List.replicate m z) (some g) := by
  have := Own.of_blk (sz := 1) (n := m) hb (by simp) hm
  simpa using this
/-- An element of what one owns. -/
theorem Own.elem {α : Type} {enc : α → List Value} {sz : Nat} (hk : ∀ x, (enc x).length = sz) (d : α) {h : Heap} {t : TypeId} {v : Value} {m g off j : Nat} {xs : List α} (o : Own h t sz v m (xs.flatMap enc) (some g)) (hj : j < xs.length) (he : off = j * sz) : cellsAt h ⟨g, off, none⟩ (enc (xs.getD j d)) 0 := by
  subst he
  refine o.cells _ _ 0 fun i hi => ?_
  have hjx : xs[j]? = some (xs.getD j d) := by rw [List.getD_eq_getElem?_getD, List.getElem?_eq_getElem hj]; rfl
  have := getElem?_flatMap hk xs j i _ hjx (by rw [hk] at hi; exact hi)
  rw [← this]; simp

/-! ### copy, clear -/
def copyOf (P : Program) (ρ : Operand → Value) (o : Oper) : Option (Value × Value × TypeId) :=
  match o.op with
  | .call { callee := .builtin .copy, args, argTypes } => match args.toList.map ρ, argTypes.toList with
    | [dv, sv], [dt, _] => match P.underlying dt with
      | some (.slice e) => some (dv, sv, e)
      | _ => none
    | _, _ => none
  | _ => none
/-- What is copied: of m elements the first d at most, whose cells are xs. -/
def SrcN (P : Program) (h : Heap) (x : Value) (sz m d : Nat) (xs : List Value) : Prop :=
  ∀ w : World, w.heap = h → (Builtin.lenOf x).run P w = .ok m w ∧ (Builtin.firstCells sz (Nat.min m d) x).run P w = .ok xs.toArray w
theorem SrcN.row {ad : Addr} {sz m c d : Nat} {xs : List Value} (hc : cellsAt h ad xs 0) (hl : xs.length = Nat.min m d * sz) : SrcN P h (.slice (some ad) m c) sz m d xs := fun w hw => by
  subst hw
  refine ⟨by simp [Builtin.lenOf], ?_⟩
  have := loadCells_ok (P := P) (w := w) (a := ad) xs 0 #[] hc
  simp only [Builtin.firstCells, loadCells, ← hl, this]
  simp
theorem OpK.copy {o : Oper} {g off d dc : Nat} {sv : Value} {e : TypeId} {sz m : Nat} {xs : List Value} {cs : Array Value} {t : TypeId} {K : Env → Heap → Prop} (hc : copyOf P (evD n s) o = some (.slice (some ⟨g, off, none⟩) d dc, sv, e))
    (hinf : (P.info? e).map (·.size) = some sz) (hsrc : SrcN P h sv sz m d xs) (hg : Blk h g cs t) (hl : off + xs.length ≤ cs.size) (hone : xs.all one = true)
    (hr : ∀ h', Mod (some g) h h' → h'.size = h.size → Blk h' g (setAt cs off xs) t → K (putO s o.dst (.int .i64 (Nat.min m d : Nat))) h') : OpK P n s h w0 o K := fun a w ha hwh h0 => by
  obtain ⟨inf, hi, hsz⟩ := Option.map_eq_some_iff.1 hinf
  obtain ⟨dst, op, type, p, after, guard⟩ := o
  unfold copyOf at hc
  simp only at hc
  split at hc
  · rename_i args argTypes
    split at hc
    · rename_i dv2 sv2 dt st hargs hts
      split at hc
      · rename_i e2 hu
        simp only [Option.some.injEq, Prod.mk.injEq] at hc
        obtain ⟨rfl, rfl, rfl⟩ := hc
        subst hwh
        have hcell : P.cellsOf e2 = sz := by simp [Program.cellsOf, hi, hsz]
        have hso : (sizeOf e2).run P w = .ok sz w := by rw [run_sizeOf_eq hi, hcell]
        obtain ⟨hlen, hfirst⟩ := hsrc w rfl
        obtain ⟨w', r1, r2, r3, r4, r5⟩ := store_run (P := P) xs cs w off 0 hg hl (List.all_eq_true.1 hone)
        have ha1 : args.map (evD n s) = #[.slice (some ⟨g, off, none⟩) d dc, sv2] := by
          apply Array.ext'; simpa using hargs
        have ha2 : argTypes = #[dt, st] := by
          apply Array.ext'; simpa using hts
        simp only [Oper.wp, eval_eq ha]
        have hrun : (execOp (evD n s) { dst := dst, op := .call { callee := .builtin .copy, args := args, argTypes := argTypes }, type := type, pos := p, after := after, guard := guard }).run P w = .ok (.value (.int .i64 (Nat.min m d : Nat))) w' := by
          simp only [execOp, resolve, Sem.run_bind, Sem.run_pure, Result.andThen, invoke, builtin, ha1, ha2, Builtin.copy_, List.getElem?_toArray, List.getElem?_cons_zero, List.getElem?_cons_succ, run_underlying hu, hlen, hso, hfirst, r1, goInt]
        rw [hrun, Oper.upon_value]
        exact ⟨_, _, ha.put dst _, rfl, h0.trans r2, hr _ ⟨by omega, fun b _ hb => r5 b (fun e => hb (by rw [e]))⟩ r4 r3⟩
      · cases hc
    · cases hc
  · cases hc
theorem Run.copy (g off d dc : Nat) (sv : Value) (e : TypeId) (dst : Option Nat) (k1 : List Item) {sz m : Nat} {xs : List Value} {cs : Array Value} {t : TypeId}
    (he : ((nextOp n s k).bind fun x => (copyOf P (evD n s) x.1).map fun c => (c.1, c.2.1, c.2.2, x.1.dst, x.2)) = some (.slice (some ⟨g, off, none⟩) d dc, sv, e, dst, k1))
    (hinf : (P.info? e).map (·.size) = some sz) (hsrc : SrcN P h sv sz m d xs) (hg : Blk h g cs t) (hl : off + xs.length ≤ cs.size) (hone : xs.all one = true)
    (hr : ∀ h', Mod (some g) h h' → h'.size = h.size → Blk h' g (setAt cs off xs) t → Run P f n k1 (putO s dst (.int .i64 (Nat.min m d : Nat))) h' w0 R) : Run P f n k s h w0 R := by
  simp only [Option.bind_eq_some_iff, Option.map_eq_some_iff, Prod.mk.injEq] at he
  obtain ⟨⟨o, k2⟩, hn, ⟨dv', sv', e'⟩, hc, rfl, rfl, rfl, rfl, rfl⟩ := he
  obtain ⟨ops, i, rest, k', rfl, rfl, ho, hw⟩ := nextOp_ok hn
  exact Run.op ho hw (OpK.copy hc hinf hsrc hg hl hone hr)
def clearOf (P : Program) (ρ : Operand → Value) (o : Oper) : Option (Value × TypeId) :=
  match o.op with
  | .call { callee := .builtin .clear, args, argTypes } => match args.toList.map ρ, argTypes.toList with
    | [xv], [xt] => match P.underlying xt with
      | some (.slice e) => some (xv, e)
      | _ => none
    | _, _ => none
  | _ => none
theorem OpK.clear {o : Oper} {g off m c : Nat} {e : TypeId} {z : Array Value} {cs : Array Value} {t : TypeId} {K : Env → Heap → Prop} (hc : clearOf P (evD n s) o = some (.slice (some ⟨g, off, none⟩) m c, e))
    (hinf : (P.info? e).bind (fun i => i.zero.map (·.cells)) = some z) (hg : Blk h g cs t) (hl : off + m * z.size ≤ cs.size) (hone : z.toList.all one = true) (hm : 0 < m)
    (hr : ∀ h' vs, vs.length = m * z.size → Mod (some g) h h' → h'.size = h.size → Blk h' g (setAt cs off vs) t → K (putO s o.dst (.tuple #[])) h') : OpK P n s h w0 o K := fun a w ha hwh h0 => by
  obtain ⟨inf, hi, hz⟩ := Option.bind_eq_some_iff.1 hinf
  obtain ⟨zv, hzv, rfl⟩ := Option.map_eq_some_iff.1 hz
  obtain ⟨dst, op, type, p, after, guard⟩ := o
  unfold clearOf at hc
  simp only at hc
  split at hc
  · rename_i args argTypes
    split at hc
    · rename_i xv2 xt hargs hts
      split at hc
      · rename_i e2 hu
        simp only [Option.some.injEq, Prod.mk.injEq] at hc
        obtain ⟨rfl, rfl⟩ := hc
        subst hwh
        have hzl : (Builtin.zeroCells zv.cells m).toList.length = m * zv.cells.size := by simp [zeroCells_size]
        have hzo : ∀ v ∈ (Builtin.zeroCells zv.cells m).toList, one v = true := by
          intro v hv
          unfold Builtin.zeroCells at hv
          simp only [Array.mem_toList_iff, Array.mem_map, Array.mem_range] at hv
          obtain ⟨i, hi2, rfl⟩ := hv
          have hpos : 0 < zv.cells.size := by
            rcases Nat.eq_zero_or_pos zv.cells.size with h | h
            · rw [h] at hi2; simp at hi2
            · exact h
          have hlt : i % zv.cells.size < zv.cells.size := Nat.mod_lt _ hpos
          rw [getElem!_pos zv.cells _ hlt]
          exact List.all_eq_true.1 hone _ (by simp)
        obtain ⟨w', r1, r2, r3, r4, r5⟩ := store_run (P := P) (Builtin.zeroCells zv.cells m).toList cs w off 0 hg (by rw [hzl]; omega) hzo
        have ha1 : args.map (evD n s) = #[.slice (some ⟨g, off, none⟩) m c] := by
          apply Array.ext'; simpa using hargs
        have ha2 : argTypes = #[xt] := by
          apply Array.ext'; simpa using hts
        simp only [Oper.wp, eval_eq ha]
        obtain ⟨m', rfl⟩ : ∃ m', m = m' + 1 := ⟨m - 1, by omega⟩
        have hrun : (execOp (evD n s) { dst := dst, op := .call { callee := .builtin .clear, args := args, argTypes := argTypes }, type := type, pos := p, after := after, guard := guard }).run P w = .ok (.value (.tuple #[])) w' := by
          simp only [execOp, resolve, Sem.run_bind, Sem.run_pure, Result.andThen, invoke, builtin, ha1, ha2, Builtin.clear_, List.getElem?_toArray, List.getElem?_cons_zero, run_underlying hu, run_zero hi hzv, r1]
        rw [hrun, Oper.upon_value]
        exact ⟨_, _, ha.put dst _, rfl, h0.trans r2, hr _ _ hzl ⟨by omega, fun b _ hb => r5 b (fun e => hb (by rw [e]))⟩ r4 r3⟩
      · cases hc
    · cases hc
  · cases hc
theorem Run.clear (g off m c : Nat) (e : TypeId) (dst : Option Nat) (k1 : List Item) {z : Array Value} {cs : Array Value} {t : TypeId}
    (he : ((nextOp n s k).bind fun x => (clearOf P (evD n s) x.1).map fun c => (c.1, c.2, x.1.dst, x.2)) = some (.slice (some ⟨g, off, none⟩) m c, e, dst, k1))
    (hinf : (P.info? e).bind (fun i => i.zero.map (·.cells)) = some z) (hg : Blk h g cs t) (hl : off + m * z.size ≤ cs.size) (hone : z.toList.all one = true) (hm : 0 < m)
    (hr : ∀ h' vs, vs.length = m * z.size → Mod (some g) h h' → h'.size = h.size → Blk h' g (setAt cs off vs) t → Run P f n k1 (putO s dst (.tuple #[])) h' w0 R) : Run P f n k s h w0 R := by
  simp only [Option.bind_eq_some_iff, Option.map_eq_some_iff, Prod.mk.injEq] at he
  obtain ⟨⟨o, k2⟩, hn, ⟨xv', e'⟩, hc, rfl, rfl, rfl, rfl⟩ := he
  obtain ⟨ops, i, rest, k', rfl, rfl, ho, hw⟩ := nextOp_ok hn
  exact Run.op ho hw (OpK.clear hc hinf hg hl hone hm hr)
end

/-- s[j:], inside the capacity -/
theorem says_from {P : Program} {t e : TypeId} (ht : P.underlying t = some (.slice e)) {sz : Nat} (hi : (P.info? e).map (·.size) = some sz) {g off n c j : Nat} (hj : j ≤ n) (hjc : j < c) (hn : n ≤ c) (h : Heap) :
    Says P (Instr.sliceAt t (.slice (some ⟨g, off, none⟩) n c) (some (.int .i64 j)) none none) (.slice (some ⟨g, off + j * sz, none⟩) (n - j) (c - j)) h := by
  intro w _
  obtain ⟨i, hi, hsz⟩ := Option.map_eq_some_iff.1 hi
  have hcell : P.cellsOf e = sz := by simp [Program.cellsOf, hi, hsz]
  have h1 : (j : Int) ≤ n := by omega
  have h2 : (n : Int) ≤ c := by omega
  have h3 : ¬ c - j = 0 := by omega
  have h4 : ¬ c = j := by omega
  simp [Instr.sliceAt, run_underlying ht, Result.andThen, Instr.slice, Instr.sliceBounds, Instr.sliceBound, asIntOf, h1, h2, run_sizeOf_eq hi, hcell, h3, h4, hj, addr_add]

/-! ### Slices of slices of one's own -/
/-- The headers vs are slices of one's own, whose elements are xss; nobody else's, and not block og. -/
def Nest {α : Type} (h : Heap) (ti : TypeId) (sz : Nat) (enc : List α → List Value) (B : Nat) (og : Option Nat) (vs : List Value) (xss : List (List α)) : Prop :=
  ∃ ogs : List (Option Nat), ogs.length = xss.length ∧ vs.length = xss.length ∧
    (∀ j, j < xss.length → Own h ti sz (vs.getD j undef) (xss.getD j []).length (enc (xss.getD j [])) (ogs.getD j none)) ∧
    ∀ j g, ogs.getD j none = some g → B ≤ g ∧ og ≠ some g ∧ ∀ i, ogs.getD i none = some g → i = j
section
variable {α : Type} {h h' : Heap} {ti : TypeId} {sz : Nat} {enc : List α → List Value} {B : Nat} {og : Option Nat} {vs : List Value} {xss : List (List α)}
theorem Nest.len (N : Nest h ti sz enc B og vs xss) : vs.length = xss.length := by obtain ⟨_, _, hv, _⟩ := N; exact hv
theorem Nest.ext (N : Nest h ti sz enc B og vs xss) (E : Ext h h') : Nest h' ti sz enc B og vs xss := by
  obtain ⟨ogs, h1, h2, h3, h4⟩ := N
  exact ⟨ogs, h1, h2, fun j hj => (h3 j hj).ext E, h4⟩
theorem Nest.modo (N : Nest h ti sz enc B og vs xss) (M : Mod og h h') : Nest h' ti sz enc B og vs xss := by
  obtain ⟨ogs, h1, h2, h3, h4⟩ := N
  refine ⟨ogs, h1, h2, fun j hj => (h3 j hj).mod M ?_, h4⟩
  cases e : ogs.getD j none with
  | none => exact .inl rfl
  | some g => exact .inr fun e2 => (h4 j g e).2.1 e2.symm
/-- .. or of a block that none of them has. -/
theorem Nest.modn (N : Nest h ti sz enc B og vs xss) {og' : Option Nat} (M : Mod og' h h') (hn : ∀ g, og' = some g → g < B) : Nest h' ti sz enc B og vs xss := by
  obtain ⟨ogs, h1, h2, h3, h4⟩ := N
  refine ⟨ogs, h1, h2, fun j hj => (h3 j hj).mod M ?_, h4⟩
  cases e : ogs.getD j none with
  | none => exact .inl rfl
  | some g => exact .inr fun e2 => by have := (h4 j g e).1; have := hn g e2.symm; omega
theorem Nest.nil : Nest h ti sz enc B og [] [] := ⟨[], rfl, rfl, fun j hj => by simp at hj, fun j g e => by simp at e⟩
theorem Nest.zeros (n : Nat) (he : enc [] = []) : Nest h ti sz enc B og (List.replicate n (.slice none 0 0)) (List.replicate n []) := by
  refine ⟨List.replicate n none, by simp, by simp, fun j hj => ?_, fun j g e => ?_⟩
  · simp only [List.length_replicate] at hj
    simp only [List.getD_eq_getElem?_getD, List.getElem?_replicate, hj, if_true, Option.getD_some, List.length_nil, he]
    exact Own.nil _ _ _
  · simp only [List.getD_eq_getElem?_getD, List.getElem?_replicate] at e
    split at e <;> simp at e
theorem getD_set {β : Type} (l : List β) (j i : Nat) (x d : β) (hj : j < l.length) : (l.set j x).getD i d = if i = j then x else l.getD i d := by
  simp only [List.getD_eq_getElem?_getD, List.getElem?_set]
  by_cases e : j = i
  · subst e; simp [hj]
  · rw [if_neg e, if_neg (Ne.symm e)]
theorem getD_snoc {β : Type} (l : List β) (i : Nat) (x d : β) : (l ++ [x]).getD i d = if i = l.length then x else l.getD i d := by
  simp only [List.getD_eq_getElem?_getD, List.getElem?_append]
  by_cases e : i < l.length
  · rw [if_pos e, if_neg (by omega)]
  · rw [if_neg e]
    by_cases e2 : i = l.length
    · subst e2; simp
    · rw [if_neg e2, List.getElem?_eq_none (show ([x] : List β).length ≤ i - l.length by simp; omega), List.getElem?_eq_none (by omega)]
theorem getD_some {β : Type} {l : List β} {j : Nat} (d : β) (hj : j < l.length) : l[j]? = some (l.getD j d) := by
  rw [List.getD_eq_getElem?_getD, List.getElem?_eq_getElem hj]; rfl
theorem Own.pos {t : TypeId} {sz' n : Nat} {v : Value} {cs : List Value} {og : Option Nat} (o : Own h t sz' v n cs og) (hn : 0 < n) : ∃ g, og = some g := by
  cases og with
  | none => obtain ⟨_, h0, _⟩ := o; omega
  | some g => exact ⟨g, rfl⟩
theorem Own.addr {t : TypeId} {sz' n c g : Nat} {A : Option Addr} {cs : List Value} (o : Own h t sz' (.slice A n c) n cs (some g)) : A = some ⟨g, 0, none⟩ ∧ n ≤ c := by
  obtain ⟨cap, arr, hv, _, _, _, _, hc, _⟩ := o
  injection hv with e1 e2 e3
  exact ⟨e1, by omega⟩
theorem Own.cslen {t : TypeId} {sz' n : Nat} {v : Value} {cs : List Value} {og : Option Nat} (o : Own h t sz' v n cs og) : cs.length = n * sz' := by
  cases og with
  | none => obtain ⟨_, rfl, rfl⟩ := o; simp
  | some g => obtain ⟨_, _, _, _, hl, _⟩ := o; exact hl
/-- The outer one was appended to. -/
theorem Nest.outer (N : Nest h ti sz enc B og vs xss) (M : Mod og h h') {og' : Option Nat} (hg : og' = og ∨ og' = some h.size) : Nest h' ti sz enc B og' vs xss := by
  obtain ⟨ogs, h1, h2, h3, h4⟩ := N
  refine ⟨ogs, h1, h2, fun j hj => (h3 j hj).mod M ?_, fun j g e => ⟨(h4 j g e).1, ?_, (h4 j g e).2.2⟩⟩
  · cases e : ogs.getD j none with
    | none => exact .inl rfl
    | some g => exact .inr fun e2 => (h4 j g e).2.1 e2.symm
  · rcases hg with rfl | rfl
    · exact (h4 j g e).2.1
    · intro e2
      cases e2
      have hlt : j < xss.length := by
        rcases Nat.lt_or_ge j xss.length with h | h
        · exact h
        · rw [List.getD_eq_getElem?_getD, List.getElem?_eq_none (by omega)] at e; cases e
      have := (h3 j hlt).lt e
      omega
/-- One more that is empty. -/
theorem Nest.push (N : Nest h ti sz enc B og vs xss) (he : enc [] = []) : Nest h ti sz enc B og (vs ++ [.slice none 0 0]) (xss ++ [[]]) := by
  obtain ⟨ogs, h1, h2, h3, h4⟩ := N
  refine ⟨ogs ++ [none], by simp [h1], by simp [h2], fun j hj => ?_, fun j g e => ?_⟩
  · simp only [getD_snoc, h1, h2]
    by_cases e : j = xss.length
    · simp only [e, if_true, List.length_nil, he]; exact Own.nil _ _ _
    · simp only [if_neg e]; exact h3 j (by simp at hj; omega)
  · rw [getD_snoc] at e
    split at e
    · cases e
    · obtain ⟨a, b, c⟩ := h4 j g e
      refine ⟨a, b, fun i e2 => ?_⟩
      rw [getD_snoc] at e2
      split at e2
      · cases e2
      · exact c i e2
/-- One more of one's own, newer than all of them. -/
theorem Nest.pushOwn (N : Nest h ti sz enc B og vs xss) (E : Ext h h') {v : Value} {xs : List α} {o' : Option Nat} (o : Own h' ti sz v xs.length (enc xs) o') (hn : ∀ g, o' = some g → h.size ≤ g ∧ B ≤ g ∧ og ≠ some g) : Nest h' ti sz enc B og (vs ++ [v]) (xss ++ [xs]) := by
  obtain ⟨ogs, h1, h2, h3, h4⟩ := N
  have hold : ∀ i' g', ogs.getD i' none = some g' → i' < xss.length ∧ g' < h.size := fun i' g' e' => by
    have hlt : i' < xss.length := by
      rcases Nat.lt_or_ge i' xss.length with h | h
      · exact h
      · rw [List.getD_eq_getElem?_getD, List.getElem?_eq_none (by omega)] at e'; cases e'
    exact ⟨hlt, (h3 i' hlt).lt e'⟩
  refine ⟨ogs ++ [o'], by simp [h1], by simp [h2], fun j hj => ?_, fun j g e => ?_⟩
  · simp only [getD_snoc, h1, h2]
    by_cases e : j = xss.length
    · simp only [e, if_true]; exact o
    · simp only [if_neg e]; exact (h3 j (by simp at hj; omega)).ext E
  · rw [getD_snoc] at e
    split at e
    · rename_i ej
      subst e
      obtain ⟨a, b, c⟩ := hn g rfl
      refine ⟨b, c, fun i e2 => ?_⟩
      rw [getD_snoc] at e2
      split at e2
      · omega
      · have := (hold i g e2).2; omega
    · obtain ⟨a, b, c⟩ := h4 j g e
      refine ⟨a, b, fun i e2 => ?_⟩
      rw [getD_snoc] at e2
      split at e2
      · subst e2
        have := hn g rfl
        have := (hold j g e).2
        omega
      · exact c i e2
/-- One of them: what it is, and what stands when it is made anew. -/
theorem Nest.open2 (N : Nest h ti sz enc B og vs xss) {h1 : Heap} (E : Ext h h1) {j : Nat} (hj : j < xss.length) : ∃ o, Own h1 ti sz (vs.getD j undef) (xss.getD j []).length (enc (xss.getD j [])) o ∧ (∀ g, o = some g → B ≤ g ∧ og ≠ some g ∧ g < h.size) ∧
    ∀ h' v' ys o', Own h' ti sz v' ys.length (enc ys) o' → Mod o h1 h' → (o' = o ∨ ∃ g, o' = some g ∧ h.size ≤ g ∧ B ≤ g ∧ og ≠ some g) → Nest h' ti sz enc B og (vs.set j v') (xss.set j ys) := by
  obtain ⟨ogs, h1, h2, h3, h4⟩ := N
  refine ⟨ogs.getD j none, (h3 j hj).ext E, fun g e => ⟨(h4 j g e).1, (h4 j g e).2.1, (h3 j hj).lt e⟩, fun h' v' ys o' hO hM ho => ⟨ogs.set j o', by simp [h1], by simp [h2], fun i hi => ?_, fun i g e => ?_⟩⟩
  · simp only [List.length_set] at hi
    rw [getD_set _ _ _ _ _ (by omega), getD_set _ _ _ _ _ (by omega), getD_set _ _ _ _ _ (by omega)]
    by_cases e : i = j
    · simp only [if_pos e]; exact hO
    · simp only [if_neg e]
      refine ((h3 i hi).ext E).mod hM ?_
      cases e2 : ogs.getD i none with
      | none => exact .inl rfl
      | some g => exact .inr fun e3 => e ((h4 i g e2).2.2 j e3.symm).symm
  · rw [getD_set _ _ _ _ _ (by omega)] at e
    have hold : ∀ i' g', ogs.getD i' none = some g' → g' < h.size := fun i' g' e' => by
      have hlt : i' < xss.length := by
        rcases Nat.lt_or_ge i' xss.length with h | h
        · exact h
        · rw [List.getD_eq_getElem?_getD, List.getElem?_eq_none (by omega)] at e'; cases e'
      exact (h3 i' hlt).lt e'
    by_cases e1 : i = j
    · rw [if_pos e1] at e
      subst e1
      rcases ho with rfl | ⟨g', rfl, hg1, hg2, hg3⟩
      · obtain ⟨a, b, c⟩ := h4 i g e
        refine ⟨a, b, fun i' e' => ?_⟩
        rw [getD_set _ _ _ _ _ (by omega)] at e'
        split at e'
        · assumption
        · exact c i' e'
      · cases e
        refine ⟨hg2, hg3, fun i' e' => ?_⟩
        rw [getD_set _ _ _ _ _ (by omega)] at e'
        split at e'
        · assumption
        · have := hold i' g e'; omega
    · rw [if_neg e1] at e
      obtain ⟨a, b, c⟩ := h4 i g e
      refine ⟨a, b, fun i' e' => ?_⟩
      rw [getD_set _ _ _ _ _ (by omega)] at e'
      split at e'
      · rename_i e2
        rcases ho with rfl | ⟨g', rfl, hg1, hg2, hg3⟩
        · exact absurd (c j e') (Ne.symm e1)
        · cases e'; have := hold i g e; omega
      · exact c i' e'
theorem Nest.open_ (N : Nest h ti sz enc B og vs xss) {j : Nat} (hj : j < xss.length) : ∃ o, Own h ti sz (vs.getD j undef) (xss.getD j []).length (enc (xss.getD j [])) o ∧ (∀ g, o = some g → B ≤ g ∧ og ≠ some g ∧ g < h.size) ∧
    ∀ h' v' ys o', Own h' ti sz v' ys.length (enc ys) o' → Mod o h h' → (o' = o ∨ ∃ g, o' = some g ∧ h.size ≤ g ∧ B ≤ g ∧ og ≠ some g) → Nest h' ti sz enc B og (vs.set j v') (xss.set j ys) := N.open2 (Ext.refl _) hj
end
theorem Nest.init {α : Type} {h : Heap} {ti : TypeId} {sz : Nat} {enc : List α → List Value} {B : Nat} {og : Option Nat} {vs : List Value} {xss : List (List α)} {v : Value} {xs : List α} (N : Nest h ti sz enc B og (vs ++ [v]) (xss ++ [xs])) : Nest h ti sz enc B og vs xss := by
  obtain ⟨ogs, h1, h2, h3, h4⟩ := N
  simp only [List.length_append, List.length_cons, List.length_nil] at h1 h2 h3
  have hg : ∀ j, j < xss.length → (ogs.take xss.length).getD j none = ogs.getD j none := fun j hj => by
    simp [List.getD_eq_getElem?_getD, List.getElem?_take, hj]
  refine ⟨ogs.take xss.length, by simp; omega, by omega, fun j hj => ?_, fun j g e => ?_⟩
  · have := h3 j (by omega)
    rw [getD_snoc, getD_snoc, if_neg (by omega), if_neg (by omega)] at this
    rw [hg j hj]; exact this
  · have hj : j < xss.length := by
      rcases Nat.lt_or_ge j xss.length with h | h
      · exact h
      · rw [List.getD_eq_getElem?_getD, List.getElem?_eq_none (by simp; omega)] at e; cases e
    rw [hg j hj] at e
    obtain ⟨a, b, c⟩ := h4 j g e
    refine ⟨a, b, fun i e2 => ?_⟩
    have hi : i < xss.length := by
      rcases Nat.lt_or_ge i xss.length with h | h
      · exact h
      · rw [List.getD_eq_getElem?_getD, List.getElem?_eq_none (by simp; omega)] at e2; cases e2
    rw [hg i hi] at e2
    exact c i e2
theorem setAt_rep (m : Nat) (z : Value) : ∀ (k off : Nat), setAt (Array.replicate m z) off (List.replicate k z) = Array.replicate m z
  | 0, _ => rfl
  | k + 1, off => by
    have h1 : (Array.replicate m z).setIfInBounds off z = Array.replicate m z := by
      apply Array.ext
      · simp
      · intro i h1 h2
        rw [Array.getElem_setIfInBounds (by simpa using h2)]
        simp
    rw [List.replicate_succ]
    simp only [setAt]
    rw [h1, setAt_rep m z k]
theorem RunA.copy {P : Program} {f : FuncId} {n : Nat} {k : List Item} {s : Env} {h : Heap} {w0 : Base} {R : Value → Heap → Prop} {ops : Array Oper} {C : HP} {qs : List Nat} {L : Array Bool} (fuel : Nat) (g off d dc : Nat) (sv : Value) (e : TypeId) (dst : Option Nat) (ex : Bool) (L1 : Array Bool) {sz m : Nat} {xs : List Value} {cs : Array Value} {t : TypeId}
    (he : ((nextA n s ops qs L).bind fun x => (copyOf P (evD n s) x.1).map fun c => (c.1, c.2.1, c.2.2, x.1.dst, x.2.1, x.2.2)) = some (.slice (some ⟨g, off, none⟩) d dc, sv, e, dst, ex, L1))
    (hinf : (P.info? e).map (·.size) = some sz) (hsrc : SrcN P h sv sz m d xs) (hg : Blk h g cs t) (hl : off + xs.length ≤ cs.size) (hone : xs.all one = true)
    (hr : ∀ h', Mod (some g) h h' → h'.size = h.size → Blk h' g (setAt cs off xs) t → (ex = false → C h') ∧ RunA P f n ops C qs fuel L1 k (putO s dst (.int .i64 (Nat.min m d : Nat))) h' w0 R) : RunA P f n ops C qs (fuel + 1) L k s h w0 R := by
  simp only [Option.bind_eq_some_iff, Option.map_eq_some_iff, Prod.mk.injEq] at he
  obtain ⟨⟨o, ex', L2⟩, hn, ⟨dv', sv', e'⟩, hc, rfl, rfl, rfl, rfl, rfl, rfl⟩ := he
  exact RunA.op hn (OpK.copy hc hinf hsrc hg hl hone hr)
theorem mapRange_set {β : Type} (n j : Nat) (f : Nat → β) (y : β) : ((List.range n).map f).set j y = (List.range n).map fun k => if k = j then y else f k := by
  apply List.ext_getElem
  · simp
  · intro i h1 h2
    rw [List.getElem_set]
    by_cases e : j = i
    · simp [e]
    · simp [e, Ne.symm e]
theorem mapRange_getD {β : Type} {n j : Nat} (f : Nat → β) (d : β) (hj : j < n) : ((List.range n).map f).getD j d = f j := by
  simp [List.getD_eq_getElem?_getD, hj]

/-- What lay there still lies there (but for one block), as newer blocks change. -/
theorem Mod.over {og og' : Option Nat} {a b c : Heap} (M : Mod og a b) (M2 : Mod og' b c) (hg : ∀ g, og' = some g → a.size ≤ g) : Mod og a c :=
  ⟨Nat.le_trans M.size M2.size, fun i hi hn => (M2.keep i (Nat.lt_of_lt_of_le hi M.size) (fun e => by have := hg i e.symm; omega)).trans (M.keep i hi hn)⟩

theorem conv_int {P : Program} {src dst : TypeId} {d : TypeDesc} {k k2 : IntKind} (hs : P.underlying src = some d) (hd : P.underlying dst = some (.int k2)) (n : Int) (w : World) : (convert src dst (.int k n)).run P w = .ok (.int k2 (k2.wrap n)) w := by
  simp [convert, run_underlying hs, run_underlying hd, Conv.intToInt]

/-- A block of one's own, written out, is read as a row. -/
theorem row1_lit {α : Type} {h : Heap} {g : Nat} {t : TypeId} {enc : α → Value} (d : α) {xs : List α} (hb : Blk h g (xs.map enc).toArray t) (hl : xs.length ≤ 140737488351232) : Row1 h (some ⟨g, 0, none⟩) enc d xs xs.length := by
  have o := Own.of_blk (sz := 1) (n := xs.length) hb (by simp) (by omega)
  simp only at o
  obtain ⟨A, c, e, r⟩ := Own.row1 (d := d) o hl
  injection e with e1 e2 e3
  subst e1 e3
  exact r
theorem rowK_lit {α : Type} {h : Heap} {g k : Nat} {t : TypeId} {enc : α → List Value} (hk : ∀ x, (enc x).length = k) (d : α) {xs : List α} (hb : Blk h g (xs.flatMap enc).toArray t) (hl : xs.length ≤ 140737488351232) : RowK h (some ⟨g, 0, none⟩) k enc d xs xs.length := by
  have o := Own.of_blk (sz := k) (n := xs.length) hb (by simp [flatMap_length hk]) (by omega)
  simp only at o
  obtain ⟨A, c, e, r⟩ := Own.rowK (d := d) o hk hl
  injection e with e1 e2 e3
  subst e1 e3
  exact r

/-! ### Rows of rows that are read -/
def rd2 {α : Type} (xss : List (List α)) (i : Int) : List α := xss.getD i.toNat []
/-- A slice of slices of ints. -/
structure Rows2 (h : Heap) (A : Option Addr) (xss : List (List Int)) (c : Nat) : Prop where
  len : xss.length ≤ 140737488351232
  cap : xss.length ≤ c
  open_ : ∃ (b off : Nat) (hA : Int → Option Addr) (hc : Int → Nat), (0 < xss.length → A = some ⟨b, off, none⟩) ∧ ∀ h', Ext h h' → ∀ j : Int, 0 ≤ j → j < xss.length →
    cellH h' ⟨b, off + j.toNat, none⟩ = some (.slice (hA j) (rd2 xss j).length (hc j)) ∧ Ints h' (hA j) (rd2 xss j) (hc j)
theorem Rows2.ext {h h' : Heap} {A : Option Addr} {xss : List (List Int)} {c : Nat} (r : Rows2 h A xss c) (E : Ext h h') : Rows2 h' A xss c :=
  ⟨r.len, r.cap, let ⟨b, off, hA, hc, e, hx⟩ := r.open_; ⟨b, off, hA, hc, e, fun h2 E2 => hx h2 (E.trans E2)⟩⟩
theorem Own.rows2 {h : Heap} {t : TypeId} {B : Nat} {v : Value} {vs : List Value} {xss : List (List Int)} {og : Option Nat} {ti : TypeId} (o : Own h t 1 v xss.length vs og)
    (N : Nest h ti 1 (fun xs : List Int => xs.map (Value.int .i64)) B og vs xss) (hl : xss.length ≤ 140737488351232) (hl2 : ∀ xs ∈ xss, xs.length ≤ 140737488351232) : ∃ A c, v = .slice A xss.length c ∧ Rows2 h A xss c := by
  obtain ⟨ogs, h1, h2, h3, h4⟩ := N
  have hin : ∀ j : Nat, j < xss.length → ∃ A c, vs.getD j undef = .slice A (xss.getD j []).length c ∧ Ints h A (xss.getD j []) c := fun j hj =>
    (h3 j hj).row1 (hl2 _ (by rw [List.getD_eq_getElem?_getD, List.getElem?_eq_getElem hj]; exact List.getElem_mem _))
  have hin2 : ∀ j : Int, ∃ x : Option Addr × Nat, j.toNat < xss.length → vs.getD j.toNat undef = .slice x.1 (xss.getD j.toNat []).length x.2 ∧ Ints h x.1 (xss.getD j.toNat []) x.2 := fun j => by
    by_cases hj : j.toNat < xss.length
    · obtain ⟨A, c, e1, e2⟩ := hin j.toNat hj; exact ⟨(A, c), fun _ => ⟨e1, e2⟩⟩
    · exact ⟨(none, 0), fun hh => absurd hh hj⟩
  obtain ⟨fx, hfx⟩ := Classical.axiomOfChoice hin2
  cases og with
  | none =>
    obtain ⟨rfl, hn, _⟩ := o
    exact ⟨none, 0, by rw [hn], hl, by omega, 0, 0, fun _ => none, fun _ => 0, fun hp => by omega, fun h' E j h0 h1 => by omega⟩
  | some g =>
    have o' := o
    obtain ⟨cap, arr, rfl, hb, hcl, ht, hs, hn, hcm⟩ := o
    refine ⟨_, cap, rfl, hl, hn, g, 0, fun j => (fx j).1, fun j => (fx j).2, fun _ => rfl, fun h' E j h0 h1 => ?_⟩
    obtain ⟨e1, e2⟩ := hfx j (by omega)
    refine ⟨?_, e2.ext E⟩
    rw [Nat.zero_add]
    refine (o'.ext E).cell ?_
    rw [List.getElem?_eq_getElem (by omega)]
    rw [List.getD_eq_getElem?_getD, List.getElem?_eq_getElem (by omega)] at e1
    exact congrArg some e1
end Go.Vc
