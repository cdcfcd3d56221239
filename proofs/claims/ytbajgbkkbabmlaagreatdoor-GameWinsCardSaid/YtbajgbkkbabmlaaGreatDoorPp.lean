/- Partitions, in plain Lean: numbering keys in the order in which they are first met. -/
import Derived.Test.YtbajgbkkbabmlaaGreatDoorVd
import Derived.Test.YtbajgbkkbabmlaaGreatDoorVp
set_option linter.unusedVariables false
set_option linter.unusedSectionVars false
namespace Go.Vc

/-- One key is numbered: the keys so far, the numbers so far. -/
def numStep {κ : Type} [DecidableEq κ] (s : List κ × List Int) (x : κ) : List κ × List Int :=
  match idx x s.1 with | some i => (s.1, s.2 ++ [(i : Int)]) | none => (s.1 ++ [x], s.2 ++ [(s.1.length : Int)])
def numF {κ : Type} [DecidableEq κ] (xs : List κ) : List κ × List Int := xs.foldl numStep ([], [])
/-- Keys with their places. -/
def nums {κ : Type} (ks : List κ) : List (κ × Int) := ks.mapIdx fun i x => (x, (i : Int))
theorem snocRec {α : Type} {p : List α → Prop} (h0 : p []) (hs : ∀ xs x, p xs → p (xs ++ [x])) (xs : List α) : p xs := by
  rw [← List.reverse_reverse xs]
  induction xs.reverse with
  | nil => exact h0
  | cons x l ih => rw [List.reverse_cons]; exact hs _ _ ih
section
variable {κ : Type} [DecidableEq κ]
theorem numF_snoc (xs : List κ) (x : κ) : numF (xs ++ [x]) = numStep (numF xs) x := by simp [numF, List.foldl_append]
theorem nums_fst (ks : List κ) : (nums ks).map Prod.fst = ks := by
  apply List.ext_getElem?
  intro i
  simp [nums]
  cases ks[i]? <;> rfl
theorem nums_length (ks : List κ) : (nums ks).length = ks.length := by simp [nums]
theorem nums_snoc (ks : List κ) (x : κ) : nums (ks ++ [x]) = nums ks ++ [(x, (ks.length : Int))] := by simp [nums, List.mapIdx_append]
theorem mfind_nums (ks : List κ) (x : κ) : mfind (nums ks) x = (idx x ks).map (fun i => (i : Int)) := by
  unfold mfind
  rw [nums_fst]
  cases h : idx x ks with
  | none => rfl
  | some i =>
    have := idx_some h
    have hl := (List.getElem?_eq_some_iff.1 this).1
    simp [nums, hl]
theorem mput_nums (ks : List κ) (x : κ) (h : idx x ks = none) : mput (nums ks) x (ks.length : Int) = nums (ks ++ [x]) := by
  unfold mput
  rw [nums_fst, h, nums_snoc]
theorem idx_none {x : κ} {ks : List κ} : idx x ks = none ↔ x ∉ ks := by
  unfold idx
  rw [List.findIdx?_eq_none_iff]
  constructor
  · intro h hx; simpa using h x hx
  · intro h y hy; simp; rintro rfl; exact h hy
theorem numF_len (xs : List κ) : (numF xs).2.length = xs.length := by
  induction xs using snocRec with
  | h0 => rfl
  | hs xs x ih =>
    rw [numF_snoc]
    unfold numStep
    split <;> simp [ih]
theorem numF_keys (xs : List κ) : (numF xs).1.length ≤ xs.length := by
  induction xs using snocRec with
  | h0 => simp [numF]
  | hs xs x ih =>
    rw [numF_snoc]
    unfold numStep
    split <;> simp <;> omega
theorem take_snoc {α : Type} (d : α) (xs : List α) (i : Nat) (hi : i < xs.length) : xs.take (i + 1) = xs.take i ++ [xs.getD ((i : Int).toNat) d] := by
  rw [List.take_succ_eq_append_getElem hi, List.getD_eq_getElem?_getD, Int.toNat_natCast, List.getElem?_eq_getElem hi]
  rfl
end
end Go.Vc
